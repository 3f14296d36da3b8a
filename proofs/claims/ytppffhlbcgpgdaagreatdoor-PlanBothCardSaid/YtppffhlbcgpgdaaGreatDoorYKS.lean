/- Lemmas toward the law; each names its conditions. -/
import Derived.Test.YtppffhlbcgpgdaaGreatDoorYK17
import Derived.Test.YtppffhlbcgpgdaaGreatDoorYKL
set_option linter.all false
set_option maxRecDepth 100000
set_option maxHeartbeats 8000000
namespace Go.Proofs.YtppffhlbcgpgdaaGreatDoor
open Go.Am
attribute [local irreducible] Decidable.decide
theorem Akb: ∀{l:List Int} {lo hi:Int},l.Pairwise (· < ·)->(∀x∈l,lo<=x/\x<hi)->lo<=hi->(l.length:Int)<=hi-lo
 |[],_,_,_,_,h=>by simp;omega
 |a::r,lo,hi,hp,hx,h=>by
  have uT:=A2x.1 hp;have ha:=hx a Ac;have:=Akb (l:=r) (lo:=a+1) (hi:=hi) uT.2 (λx hr=>⟨by have:=uT.1 x hr;omega,(hx x (by simp[hr])).2⟩) Aa;simp;omega
def Abf (p:Pend):Int:=3*p.sZ+p.part
theorem Aax {p:Pend} (h:AZ p=true):0<=Abf p/\Abf p<6:=by
 simp only[AZ,Uj]at h;unfold Abf;omega
theorem Aqw {a b:Pend} (ha:AZ a=true) (hb:AZ b=true) (h:Nj a b=true):Abf a<Abf b:=by
 simp only[AZ,Uj]at ha hb;simp only[Nj,Uj]at h;unfold Abf;omega
theorem UL: ∀{l:List Pend},CS l=true->l.all AZ=true->Gk (l.map Abf)=true
 |[],_,_=>rfl
 |[_],_,_=>rfl
 |a::b::r,h,ha=>by
  simp only[CS,Qp]at h;simp only[A6y,Qp]at ha;have:=UL (l:=b::r) h.2 (by simp only[A6y,Qp];exact ha.2);simp only[A5h,Gk,Qp,Uj];exact⟨Aqw ha.1 ha.2.1 h.1,this⟩
theorem Af1 {l:List Pend} (h:CS l=true) (ha:l.all AZ=true):l.length<=6:=by
 have h1:=N8 _ (UL h ha)
 have:=Akb (lo:=0) (hi:=6) h1 (λx hx=>by
  obtain⟨p,hp,rfl⟩:=List.mem_map.1 hx
  exact Aax (A21.1 ha p hp)) Aa
 rw[Ts]at this;omega
theorem Af2 {l:List Int} (h:CD l=true):l.length<=3:=Akp (Hd h).1 (Hd h).2
theorem Ce {c:Coord}:DJ c=true↔c.rH.all AZ=true/\((1<=c.lO/\c.lO<=8)/\(0<=c.lT/\c.lT<=100)/\(1<=c.mZ/\c.mZ<=20)/\(0<=c.vZ/\c.vZ<=1048576))/\CD c.parts=true/\CS c.rH=true:=by
 unfold DJ;simp only[Qp,Uj]
theorem Yg {c:Coord} (h:BD c=true):c.parts.length<=3/\c.rH.length<=6:=by
 by_cases h0:c.state=0
 ·unfold BD at h;rw[WU h0]at h;have:c=BX:=A5c h;rw[this];simp[BX]
 ·obtain⟨h1,_,h3,h4⟩:=Ce.1 (Fm h h0);exact⟨Af2 h3,Af1 h4 h1⟩
theorem MP {c:Coord} (h:BD c=true):SmallC c:=by
 have:=Yg h;exact⟨Aa,Aa⟩
theorem LQ {c:Coord} (h:BD c=true) (h0:c.state=0):c=BX:=by
 unfold BD at h;rw[WU h0]at h;exact A5c h
theorem Yf {c:Coord} (h:BD c=true):c.state=0\/c.state=1\/c.state=2\/c.state=3\/c.state=4\/c.state=5\/c.state=6:=by
 unfold BD at h
 repeat' split at h
 all_goals first|(cases h;done)|omega
theorem Ko {c:Coord} (h:c.state=2):BD c=true↔ ¬(c.parts=[]/\c.rH=[])/\c.sA=0/\DJ c=true:=by
 unfold BD;rw[Ug Aa,WU h];simp only[Qp,Uj,and_assoc]
theorem Fb {c:Coord} (h:c.state=1\/c.state=5\/c.state=6):BD c=true↔(c.sA=0/\c.vZ=0/\c.parts=[]/\c.rH=[])/\DJ c=true:=by
 unfold BD;rw[Ug Aa,Ug Aa,Ug Aa,Ug Aa,WU h];simp only[Qp,Uj]
theorem Aav {c:Coord} {l:List Int} (hm:BD c=true) (h3:c.state≠3/\c.state≠4) (hl:CD l=true) (h0:c.state=0->l=[]):BD (DT c l)=true/\(DT c l).lO=c.lO/\(DT c l).lT=c.lT/\(DT c l).parts=l/\(DT c l).state≠3/\(DT c l).state≠4:=by
 have e:H4 c l=0:=by
  unfold H4;rw[hm,hl,Ug Ac,Ug (λh=>h.2 (h0 h.1))]
 unfold DT;rw[Ug (by rw[e];decide),Ug Aa];rcases Yf hm with h|h|h|h|h|h|h
 ·have hc:=LQ hm h;have iQ:=h0 h;subst hc iQ;simp[BX,BD]
 ·obtain⟨⟨q1,q2,q3,q4⟩,q5⟩:=(Fb (.inl h)).1 hm;obtain⟨r1,r2,r3,r4⟩:=Ce.1 q5;rw[Ug Aa];split
  ·rename_i aE;refine⟨(Ko Y).2 ⟨λx=>aE x.1,q1,Ce.2 ⟨r1,r2,hl,r4⟩⟩,Y,Y,Y,?_,?_⟩<;>(show(2:Int)≠_;decide)
  ·rename_i aE;have iQ:l=[]:=A34.1 aE;refine⟨(Fb (c:={c with parts:=l}) (.inl h)).2 ⟨⟨q1,q2,iQ,q4⟩,Ce.2 ⟨r1,r2,hl,r4⟩⟩,Y,Y,Y,h3.1,h3.2⟩
 ·obtain⟨q1,q2,q3⟩:=(Ko h).1 hm;obtain⟨r1,r2,r3,r4⟩:=Ce.1 q3;rw[WU h];split
  ·rename_i aE;refine⟨(Fb (.inl Y)).2 ⟨⟨q2,Y,aE.1,aE.2⟩,Ce.2 ⟨r1,⟨r2.1,r2.2.1,r2.2.2.1,Ac⟩,hl,r4⟩⟩,Y,Y,Y,?_,?_⟩<;>(show(1:Int)≠_;decide)
  ·rename_i aE;exact⟨(Ko (c:={c with parts:=l}) h).2 ⟨aE,q2,Ce.2 ⟨r1,r2,hl,r4⟩⟩,Y,Y,Y,h3.1,h3.2⟩
 ·exact absurd h h3.1
 ·exact absurd h h3.2
 ·obtain⟨⟨q1,q2,q3,q4⟩,q5⟩:=(Fb (.inr (.inl h))).1 hm;obtain⟨r1,r2,r3,r4⟩:=Ce.1 q5;rw[Ug Aa];split
  ·rename_i aE;refine⟨(Ko Y).2 ⟨λx=>aE x.1,q1,Ce.2 ⟨r1,r2,hl,r4⟩⟩,Y,Y,Y,?_,?_⟩<;>(show(2:Int)≠_;decide)
  ·rename_i aE;have iQ:l=[]:=A34.1 aE;refine⟨(Fb (c:={c with parts:=l}) (.inr (.inl h))).2 ⟨⟨q1,q2,iQ,q4⟩,Ce.2 ⟨r1,r2,hl,r4⟩⟩,Y,Y,Y,h3.1,h3.2⟩
 ·obtain⟨⟨q1,q2,q3,q4⟩,q5⟩:=(Fb (.inr (.inr h))).1 hm;obtain⟨r1,r2,r3,r4⟩:=Ce.1 q5;rw[Ug Aa];split
  ·rename_i aE;refine⟨(Ko Y).2 ⟨λx=>aE x.1,q1,Ce.2 ⟨r1,r2,hl,r4⟩⟩,Y,Y,Y,?_,?_⟩<;>(show(2:Int)≠_;decide)
  ·rename_i aE;have iQ:l=[]:=A34.1 aE;refine⟨(Fb (c:={c with parts:=l}) (.inr (.inr h))).2 ⟨⟨q1,q2,iQ,q4⟩,Ce.2 ⟨r1,r2,hl,r4⟩⟩,Y,Y,Y,h3.1,h3.2⟩
theorem WM {t:Int} (h:0<=t/\t<3):t=0\/t=1\/t=2:=AH h
theorem XU {s:MState} {lO t:Int} (h:QH s lO=some t):(0<=t/\t<3)/\(Aj s t).lO=lO/\1<=lO:=by
 unfold QH at h
 repeat' split at h
 all_goals first
  |(cases h;done)
  |(rename_i hx
    injection h with h;subst h
    simp only[Ms,Uj]at hx
    exact⟨Aa,hx.2,hx.1⟩)
theorem Ack {s:MState} (hm:Bv s=true) {t u:Int} (ht:0<=t/\t<3) (hu:0<=u/\u<3) (hp:(Aj s t).lO≠0) (h:(Aj s t).lO=(Aj s u).lO):t=u:=by
 simp only[Bv,FQ,Qp,Uj]at hm;obtain⟨_,_,_,_,⟨a1,a2,a3⟩,_⟩:=hm;rcases WM ht with rfl|rfl|rfl<;>rcases WM hu with rfl|rfl|rfl
 all_goals first
  |rfl
  |(exfalso
    simp only[Aj,Int.reduceEq,Xs,ZF]at hp h;first
    |exact a1 ⟨Aa,Aa⟩
    |exact a2 ⟨Aa,Aa⟩
    |exact a3 ⟨Aa,Aa⟩)
theorem Aul {s:MState} (hm:Bv s=true) {t lO:Int} (ht:0<=t/\t<3) (hp:1<=lO) (h:(Aj s t).lO=lO):QH s lO=some t:=by
 have hx: ∀u,0<=u/\u<3->Ms s lO u=true->u=t:=λu hu hi=>by
  simp only[Ms,Uj]at hi;exact Ack hm hu ht Aa Aa
 have hy:Ms s lO t=true:=by simp only[Ms,Uj];exact⟨hp,h⟩
 unfold QH;split
 ·rename_i h0;rw[hx 0 Aa h0]
 ·split
  ·rename_i h1;rw[hx 1 Aa h1]
  ·split
   ·rename_i h2;rw[hx 2 Aa h2]
   ·rename_i h0 h1 h2;exfalso;rcases WM ht with rfl|rfl|rfl
    ·exact h0 hy
    ·exact h1 hy
    ·exact h2 hy
theorem LL {s:MState} (hm:Bv s=true) {o:Opn}:Ei s o=true↔1<=o.lO/\ ∃t,(0<=t/\t<3)/\(Aj s t).lO=o.lO/\(Aj s t).lT=o.lT:=by
 unfold Ei;constructor
 ·intro h
  cases ho:QH s o.lO with
  |none=>rw[ho]at h;cases h
  |some t=>
   rw[ho]at h;obtain⟨h1,h2,h3⟩:=XU ho;exact⟨h3,t,h1,h2,A5c h⟩
 ·rintro⟨h1,t,ht,h2,h3⟩;rw[Aul hm ht h1 h2];exact A32 h3
theorem RY {s s':MState} (hm:Bv s=true) (fN:Bv s'=true) {o:Opn} (f: ∀t,(0<=t/\t<3)->(Aj s t).lO=o.lO->(Aj s t).lT=o.lT->(Aj s' t).lO=o.lO/\(Aj s' t).lT=o.lT) (h:Ei s o=true):Ei s' o=true:=by
 obtain⟨h1,t,ht,h2,h3⟩:=(LL hm).1 h;obtain⟨k2,k3⟩:=f t ht h2 h3;exact(LL fN).2 ⟨h1,t,ht,k2,k3⟩
theorem O4 (s:MState) {t u:Int} (ht:0<=t/\t<3) (hu:0<=u/\u<3) (h:u≠t) (c:Coord):Aj (AO s t c) u=Aj s u:=by
 rcases WM ht with rfl|rfl|rfl<;>rcases WM hu with rfl|rfl|rfl
 all_goals first|rfl|exact absurd Y h
structure Pre (n:Nat) (K:Image):Prop where
 vQ:K.vQ=0\/K.vQ=1
 vW:Bv K.m=true
 pok: ∀q,(q=0\/q=1\/q=2)->POk (A5 K q)
 tq: ∀q,(q=0\/q=1\/q=2)->TQ n (A5 K q)
 own: ∀q,(q=0\/q=1\/q=2)-> ∀o∈(A5 K q).kI,Ei K.m o=true
 st: ∀t,(0<=t/\t<3)->(Aj K.m t).state≠3/\(Aj K.m t).state≠4
structure Rch (n:Nat) (i:Image):Prop where
 vT:Pre n i
 parts: ∀t,(0<=t/\t<3)->(Aj i.m t).parts=BF i (Aj i.m t).lO
theorem Rch.chk {n:Nat} {i:Image} (h:Rch n i):GK i=true:=by
 rw[Vk]
 have hq: ∀q,(q=0\/q=1\/q=2)->V3 i q=true:=λq hq=>by
  unfold V3;rw[Ez.2 (h.vT.pok q hq),A5a,A21];exact h.vT.own q hq
 have ht: ∀t,(0<=t/\t<3)->Xv i t=true:=λt ht=>A32 (h.parts t ht);rw[A32 h.vT.vQ,h.vT.vW,hq 0 Ac,hq 1 Ac,hq 2 Ac,ht 0 Aa,ht 1 Aa,ht 2 Aa];rfl
theorem MayT.vS {s:MState} (h:MayT s):SmallM s:=⟨MP h.t0,MP h.t1,MP h.t2⟩
theorem Pre.vS {n:Nat} {K:Image} (h:Pre n K):SmallI K:=
 have hm:=(CZ h.vW).vS
 ⟨(h.tq 0 Ac).vS,(h.tq 1 Ac).vS,(h.tq 2 Ac).vS,hm.t0,hm.t1,hm.t2⟩
theorem TQ.pb {n:Nat} {p:Part} (h:TQ n p) (hn:n<=900):PB p:=⟨by have:=h.rows;omega,by have:=h.kI;omega⟩
theorem Pre.fit {n:Nat} {i:Image} (h:Pre n i) (hn:n<=900) (hp: ∀t,(0<=t/\t<3)->(Aj i.m t).parts=BF i (Aj i.m t).lO):Fit i:=by
 refine Amf h.vS ((h.tq 0 Ac).pb hn) ((h.tq 1 Ac).pb hn) ((h.tq 2 Ac).pb hn) (Rch.chk ⟨h,hp⟩)
theorem XH {n:Nat} {K:Image} (h:Pre n K):BF K 0=[]:=by
 have hz: ∀q,(q=0\/q=1\/q=2)->DW (A5 K q) 0=false:=λq hq=>by
  unfold DW;rw[A4u];intro o ho;have:=((LL h.vW).1 (h.own q hq o ho)).1;simp;omega
 have h0:=hz 0 Ac;have h1:=hz 1 Ac;have h2:=hz 2 Ac;simp only[A5,Int.reduceEq,Xs,ZF]at h0 h1 h2;unfold BF;rw[h0,h1,h2];rfl
def F1 (K:Image) (t:Int):Coord:=DT (Aj K.m t) (BF K (Aj K.m t).lO)
theorem Ro (K:Image) {t:Int} (ht:0<=t/\t<3):Aj (Tu K).m t=F1 K t:=by
 rcases WM ht with rfl|rfl|rfl<;>rfl
theorem Lh {n:Nat} {K:Image} (h:Pre n K) {t:Int} (ht:0<=t/\t<3):BD (F1 K t)=true/\(F1 K t).lO=(Aj K.m t).lO/\(F1 K t).lT=(Aj K.m t).lT/\(F1 K t).parts=BF K (Aj K.m t).lO/\(F1 K t).state≠3/\(F1 K t).state≠4:=by
 have hm:=(CZ h.vW).mY t;refine Aav hm (h.st t ht) (Np _ _) λh0=>?_;have:=LQ hm h0;rw[this];exact XH h
theorem Pre.place {n:Nat} {K:Image} (h:Pre n K):PlaceOk K:=by
 have hm:=CZ h.vW;have hz:=XH h;exact⟨FY hm.t0 hz,FY hm.t1 hz,FY hm.t2 hz⟩
theorem Pre.set {n:Nat} {K:Image} (h:Pre n K):Rch n (Tu K):=by
 have p0:=Lh h (t:=0) Aa;have p1:=Lh h (t:=1) Aa;have p2:=Lh h (t:=2) Aa;have em:(Tu K).m=AO (AO (AO K.m 0 (F1 K 0)) 1 (F1 K 1)) 2 (F1 K 2):=rfl
 have hm:Bv (Tu K).m=true:=by
  rw[em];refine D5 Aa (D5 Aa (D5 Aa h.vW p0.1 p0.2.1) p1.1 p1.2.1) p2.1 p2.2.1
 refine⟨⟨h.vQ,hm,h.pok,h.tq,λq hq o ho=>?_,λt ht=>?_⟩,λt ht=>?_⟩
 ·refine RY h.vW hm (λt ht h1 h2=>?_) (h.own q hq o ho);rw[Ro K ht,(Lh h ht).2.1,(Lh h ht).2.2.1];exact⟨h1,h2⟩
 ·rw[Ro K ht];exact(Lh h ht).2.2.2.2
 ·rw[Ro K ht,(Lh h ht).2.2.2.1,(Lh h ht).2.1];rfl
theorem Pre.up {n:Nat} {K:Image} (h:Pre n K):Pre (n+1) K:=⟨h.vQ,h.vW,h.pok,λq hq=>(h.tq q hq).up,h.own,h.st⟩
theorem Rch.up {n:Nat} {K:Image} (h:Rch n K):Rch (n+1) K:=⟨h.vT.up,h.parts⟩
theorem UP {p:Part} {o:Opn} (h:o∈p.kI):DW p o.lO=true:=A6s.2 ⟨o,h,A32 Y⟩
theorem ZA {i:Image} {lO:Int} (h:BF i lO=[]) {q:Int} (hq:q=0\/q=1\/q=2):DW (A5 i q) lO=false:=by
 unfold BF at h;rw[List.append_eq_nil_iff,List.append_eq_nil_iff]at h;have aux: ∀{b:Bool} {x:Int},(if b=true then[x]else[])=([]:List Int)->b=false:=fun{b x} hb=>by cases b<;>simp_all
 rcases hq with rfl|rfl|rfl
 ·exact aux h.1
 ·exact aux h.2.1
 ·exact aux h.2.2
theorem Aa9 {i:Image} {lO q:Int} (hq:q=0\/q=1\/q=2):q∈BF i lO↔DW (A5 i q) lO=true:=by
 unfold BF;rcases hq with rfl|rfl|rfl
 all_goals
  simp only[A5,Int.reduceEq,Xs,ZF];cases DW i.p0 lO<;>cases DW i.p1 lO<;>cases DW i.p2 lO<;>simp
theorem I1 {s:MState} {e:MEntry} (h:Ej s e=0):Bv s=true/\I4 e=true/\J4 s e=0/\Bv (EZ s e)=true/\HF s e=EZ s e:=by
 have h':=h;unfold Ej at h;split at h
 ·cases h
 ·rename_i h1;split at h
  ·rename_i h2;exact absurd h h2
  ·rename_i h2;split at h
   ·cases h
   ·rename_i h3;refine⟨?_,?_,A34.1 h2,?_,?_⟩
    ·cases hb:Bv s with
     |true=>rfl
     |false=>exact absurd (.inl hb) h1
    ·cases hb:I4 e with
     |true=>rfl
     |false=>exact absurd (.inr hb) h1
    ·cases hb:Bv (EZ s e)with
     |true=>rfl
     |false=>exact absurd hb h3
    ·unfold HF;rw[Ug (λx=>x h')]
theorem Pre.meta {n:Nat} {i:Image} (h:Pre n i) {s:MState} (hm:Bv s=true) (f: ∀q,(q=0\/q=1\/q=2)-> ∀o∈(A5 i q).kI,∀t,(0<=t/\t<3)->(Aj i.m t).lO=o.lO->(Aj i.m t).lT=o.lT->(Aj s t).lO=o.lO/\(Aj s t).lT=o.lT) (cL: ∀t,(0<=t/\t<3)->(Aj s t).state≠3/\(Aj s t).state≠4):Pre n (Dy i s):=
 ⟨h.vQ,hm,h.pok,h.tq,λq hq o ho=>RY h.vW hm (f q hq o ho) (h.own q hq o ho),cL⟩
theorem Ae8 (i:Image) (q:Int) (p:Part):(CP i q p).m=i.m/\(CP i q p).vQ=i.vQ:=by
 unfold CP;repeat' split
 all_goals exact⟨Y,Y⟩
theorem Pre.part {n:Nat} {i:Image} (h:Pre n i) {q:Int} (hq:q=0\/q=1\/q=2) {P:Part} (hP:POk P) (hT:TQ (n+1) P) (ho: ∀o∈P.kI,Ei i.m o=true):Pre (n+1) (CP i q P):=by
 have e:=Ae8 i q P;refine⟨by rw[e.2];exact h.vQ,by rw[e.1];exact h.vW,λq' jW=>?_,λq' jW=>?_,λq' jW o hm=>?_,λt ht=>by rw[e.1];exact h.st t ht⟩
 ·rw[NF i hq jW];split
  ·exact hP
  ·exact h.pok q' jW
 ·rw[NF i hq jW];split
  ·exact hT
  ·exact(h.tq q' jW).up
 ·rw[e.1];rw[NF i hq jW]at hm;split at hm
  ·exact ho o hm
  ·exact h.own q' jW o hm
theorem At2 {n:Nat} {i:Image} (h:Rch n i) (hz:Ej i.m e0=0):Pre n (Dy i (HF i.m e0)):=by
 obtain⟨_,_,_,hm,es⟩:=I1 hz;rw[es];have et: ∀t,Aj (EZ i.m e0) t=Aj i.m t:=λt=>rfl;exact h.vT.meta hm (λq hq o ho t ht h1 h2=>by rw[et];exact⟨h1,h2⟩) λt ht=>by rw[et];exact h.vT.st t ht
theorem Ac9 (s:MState) (g q n t:Int):Aj (Hw s g q n) t=Aj s t:=by
 unfold Hw;repeat' split
 all_goals rfl
theorem Atz {n:Nat} {i:Image} (h:Rch n i) {p:Pend} (hz:Ej i.m (e5 p)=0):Pre n (Dy i (HF i.m (e5 p))):=by
 obtain⟨_,_,_,hm,es⟩:=I1 hz;rw[es];have et: ∀t,Aj (EZ i.m (e5 p)) t=Aj i.m t:=λt=>Ac9 ..;exact h.vT.meta hm (λq hq o ho t ht h1 h2=>by rw[et];exact⟨h1,h2⟩) λt ht=>by rw[et];exact h.vT.st t ht
theorem SQ {c:Coord} {m:Int} {fit:Bool} (h:ER c m fit=0):fit=true/\BD c=true/\Ci c.state m=true:=by
 unfold ER at h;split at h
 ·cases h
 ·rename_i h1;split at h
  ·cases h
  ·rename_i h2;refine⟨?_,?_,?_⟩
   ·revert h1;cases fit<;>simp
   ·revert h1;cases BD c<;>simp
   ·revert h2;cases Ci c.state m<;>simp
theorem MB {c:Coord} {p:Pend} (h:IW c p=0):R6 c p={c with state:=2,rH:=G1 p c.rH}:=by unfold R6;rw[Ug (λx=>x h)]
theorem At0 {n:Nat} {i:Image} (h:Rch n i) {mY:Int} (ht:0<=mY/\mY<3) {p:Pend} (hz:Ej i.m (e2 mY p)=0):Pre n (Dy i (HF i.m (e2 mY p))):=by
 obtain⟨_,_,hv,hm,es⟩:=I1 hz;rw[es];have hc:IW (Aj i.m mY) p=0:=hv
 have ev:EZ i.m (e2 mY p)=AO i.m mY {Aj i.m mY with state:=2,rH:=G1 p (Aj i.m mY).rH}:=by
  rw[<-MB hc];rfl
 rw[ev]at hm⊢;refine h.vT.meta hm (λq hq o ho t d5 h1 h2=>?_) λt d5=>?_
 ·by_cases e:t=mY
  ·subst e;rw[Gg _ ht];exact⟨h1,h2⟩
  ·rw[O4 _ ht d5 e];exact⟨h1,h2⟩
 ·by_cases e:t=mY
  ·subst e;rw[Gg _ ht];exact⟨by show(2:Int)≠3;decide,by show(2:Int)≠4;decide⟩
  ·rw[O4 _ ht d5 e];exact h.vT.st t d5
theorem Asa {s:Int} (h:Ci s 0=true):s=0\/s=1\/s=5\/s=6:=by
 unfold Ci at h
 repeat' split at h
 all_goals first
  |omega
  |(simp at h;done)
  |(cases h;done)
theorem Sw {c:Coord} {lO aP:Int} (h:EP c lO aP=0):BD c=true/\(c.state=0\/c.state=1\/c.state=5\/c.state=6)/\c.lT<100/\(1<=lO/\lO<=8)/\(1<=aP/\aP<=20):=by
 unfold EP at h;split at h
 ·rename_i h1;exact absurd h h1
 ·rename_i h1;obtain⟨k1,k2,k3⟩:=SQ (A34.1 h1);split at h
  ·cases h
  ·have:=A5c k1;exact⟨k2,Asa k3,Aa,this.1,this.2⟩
theorem J9 {c:Coord} {lO aP:Int} (h:EP c lO aP=0):Ek c lO aP=if c.state=0 then⟨1,lO,0,aP,0,[],[],0⟩else⟨1,c.lO,c.lT+1,aP,0,[],[],0⟩:=by unfold Ek;rw[Ug (λx=>x h)]
theorem Af7 {n:Nat} {i:Image} (h:Rch n i) {t:Int} (ht:0<=t/\t<3) (hs:(Aj i.m t).state=0\/(Aj i.m t).state=1\/(Aj i.m t).state=5\/(Aj i.m t).state=6) {q:Int} (hq:q=0\/q=1\/q=2) {o:Opn} (ho:o∈(A5 i q).kI):(Aj i.m t).lO≠o.lO:=by
 intro e;have m9:=(CZ h.vT.vW).mY t
 have hp:(Aj i.m t).parts=[]:=by
  rcases hs with hs|hs
  ·rw[LQ m9 hs];rfl
  ·exact((Fb hs).1 m9).1.2.2.1
 rw[h.parts t ht]at hp;have:=ZA hp hq;rw[e,UP ho]at this;cases this
theorem At1 {n:Nat} {i:Image} (h:Rch n i) {mY aP:Int} (ht:0<=mY/\mY<3) (hz:Ej i.m (e1 mY aP)=0):Pre n (Dy i (HF i.m (e1 mY aP))):=by
 obtain⟨_,_,hv,hm,es⟩:=I1 hz;rw[es];have cY:(if 8<(if(Aj i.m mY).state=0 then i.m.vP+1 else(Aj i.m mY).lO)then(102:Int)else EP (Aj i.m mY) (if(Aj i.m mY).state=0 then i.m.vP+1 else(Aj i.m mY).lO) aP)=0:=hv;generalize dG:(if(Aj i.m mY).state=0 then i.m.vP+1 else(Aj i.m mY).lO)=lO at cY;split at cY
 ·cases cY
 obtain⟨_,hs,_,_⟩:=Sw cY
 have key: ∀t,(0<=t/\t<3)->(t=mY->(Aj (EZ i.m (e1 mY aP)) t).state=1)/\(t≠mY->Aj (EZ i.m (e1 mY aP)) t=Aj i.m t):=by
  intro t d5;have ev:EZ i.m (e1 mY aP)=if(Aj i.m mY).state=0 then DO (AO i.m mY (Ek (Aj i.m mY) (i.m.vP+1) aP)) (i.m.vP+1)else AO i.m mY (Ek (Aj i.m mY) (Aj i.m mY).lO aP):=rfl
  rw[ev];by_cases h0:(Aj i.m mY).state=0
  ·rw[WU h0]at dG⊢;subst dG;have et: ∀u,Aj (DO (AO i.m mY (Ek (Aj i.m mY) (i.m.vP+1) aP)) (i.m.vP+1)) u=Aj (AO i.m mY (Ek (Aj i.m mY) (i.m.vP+1) aP)) u:=λu=>rfl;rw[et];refine⟨λe=>?_,λe=>O4 _ ht d5 e _⟩;subst e;rw[Gg _ ht,J9 cY,WU h0]
  ·rw[Ug h0]at dG⊢;subst dG;refine⟨λe=>?_,λe=>O4 _ ht d5 e _⟩;subst e;rw[Gg _ ht,J9 cY,Ug h0]
 refine h.vT.meta hm (λq hq o ho t d5 h1 h2=>?_) λt d5=>?_
 ·by_cases e:t=mY
  ·subst e;exact absurd h1 (Af7 h d5 hs hq ho)
  ·rw[(key t d5).2 e];exact⟨h1,h2⟩
 ·by_cases e:t=mY
  ·rw[(key t d5).1 e];exact⟨Ae,Ae⟩
  ·rw[(key t d5).2 e];exact h.vT.st t d5
def Ako (i:Image) (x:MEntry):Image:=Tu (Dy i (HF i.m x))
theorem Aes {i:Image} {lO ep:Int} {vV:Bool} (h:F7 i lO ep vV=0):1<=lO/\lO<=i.m.vP/\(QH i.m lO).isSome=vV/\ep=XM i lO:=by
 unfold F7 at h;split at h
 ·cases h
 ·rename_i h1;split at h
  ·cases h
  ·rename_i h2;refine⟨Aa,Aa,?_,A34.1 h2⟩;exact Ya λhx=>h1 (.inr hx)
theorem LD {i:Image} {lO ep:Int} (h:F7 i lO ep true=0):(0<=Fi i lO ep true/\Fi i lO ep true<3)/\(Aj i.m (Fi i lO ep true)).lO=lO/\(Aj i.m (Fi i lO ep true)).lT=ep/\1<=lO:=by
 obtain⟨h1,h2,h3,h4⟩:=Aes h
 cases ho:QH i.m lO with
 |none=>rw[ho]at h3;cases h3
 |some t=>
  have e:Fi i lO ep true=t:=by unfold Fi;rw[Ug (λx=>x h),ho]
  have e2:XM i lO=(Aj i.m t).lT:=by unfold XM;rw[ho]
  obtain⟨k1,k2,k3⟩:=XU ho;rw[e];exact⟨k1,k2,by rw[h4,e2],h1⟩
theorem Af4 {n:Nat} {i:Image} (h:Rch n i) {q:Int} (hq:q=0\/q=1\/q=2) {b:Batch} (hw:F7 i b.lO b.lT b.vV=0) (hr:KX (A5 i q) b=none): ∀o∈(I0 (A5 i q) b).kI,Ei i.m o=true:=by
 intro o ho
 cases ht:b.vV with
 |false=>
  have e:I0 (A5 i q) b=EH (A5 i q) b:=by simp[I0,ht]
  rw[e]at ho;exact h.vT.own q hq o ho
 |true=>
  have e:I0 (A5 i q) b=O3 (A5 i q) b:=by simp[I0,ht]
  rw[e]at ho;rcases I2.1 ho with rfl|⟨h1,_⟩
  ·rw[ht]at hw;obtain⟨k1,k2,k3,k4⟩:=LD hw;refine(LL h.vT.vW).2 ⟨by rw[Kj];exact k4,_,k1,by rw[Kj];exact k2,?_⟩;rw[k3];unfold H5;split
   ·rename_i o hf;exact(X5 (LJ (J1 hr)).1 hf).2.1.symm
   ·rfl
  ·exact h.vT.own q hq o h1
theorem X6 {n:Nat} {i:Image} (h:Rch n i) (hn:n<=1000) {q:Int} (hq:q=0\/q=1\/q=2) {b:Batch} (hw:F7 i b.lO b.lT b.vV=0) (hp:(Aa5 i.vQ q (A5 i q) b).e=0):Pre (n+1) (CP i q (Aa5 i.vQ q (A5 i q) b).part):=by
 obtain⟨_,hm,hc,hA⟩:=Ap7 hp;have eE:=h.vT.pok q hq;rcases hA with⟨_,hP⟩|⟨hi,hr,hP⟩
 ·rw[hP];exact h.vT.part hq eE (h.vT.tq q hq).up (h.vT.own q hq)
 ·rw[hP];have bA:=Auh eE hm hc hi hr;exact h.vT.part hq bA ((h.vT.tq q hq).one hn eE hm bA) (Af4 h hq hw hr)
theorem Avi {p:Part} {n:Int} (h:POk p) (h1:p.vR<=n) (h2:n<=p.fin):POk (SJ p n):=by
 have h0:=h.b0;refine⟨by show 0<=n;omega,h2,h.b2,h.srt.filter _,λr hr=>?_,h.vY,λr hr=>h.rok r (A6c.1 hr).1,h.vW,h.ook⟩;have hm:=A6c.1 hr;have:=h.rin r hm.1;have h3:n<=r.offset:=by simpa using hm.2
 exact⟨h3,this.2⟩
theorem Ano {e q:Int} {p:Part} {n:Int} (h:(Q9 e q p n).e=0):p.vR<=n/\n<=p.fin/\Q9 e q p n=⟨SJ p n,EV (F5 e q) [Q7 n],0⟩:=by
 unfold Q9 at h;split at h
 ·cases h
 ·rename_i h1;split at h
  ·cases h
  ·rename_i h2;refine⟨Aa,Aa,?_⟩;unfold Q9;rw[Ug h1,Ug h2]
theorem Ap3 {n:Nat} {i:Image} (h:Rch n i) {q:Int} (hq:q=0\/q=1\/q=2) {off:Int} (hp:(Q9 i.vQ q (A5 i q) off).e=0):Pre (n+1) (CP i q (Q9 i.vQ q (A5 i q) off).part):=by
 obtain⟨h1,h2,hP⟩:=Ano hp;rw[hP];exact h.vT.part hq (Avi (h.vT.pok q hq) h1 h2) (h.vT.tq q hq).cut (h.vT.own q hq)
theorem TW: ∀(l:List Pend) (s:MState) (t:Int),Aj (CQ s l) t=Aj s t
 |[],_,_=>rfl
 |p::r,s,t=>by
  have:=TW r (Hw s p.sZ p.part p.offset) t;rw[Ac9]at this;exact this
theorem TX (s:MState) {mY:Int} (ht:0<=mY/\mY<3) {t:Int} (d5:0<=t/\t<3):Aj (DY s mY) t=if t=mY then C3 (Aj s mY)else Aj s t:=by
 have e:Aj (DY s mY) t=Aj (AO s mY (C3 (Aj s mY))) t:=by
  unfold DY;split
  ·exact TW ..
  ·rfl
 rw[e];split
 ·rename_i h;rw[h,Gg _ ht]
 ·rename_i h;exact O4 _ ht d5 h _
theorem Wx {c:Coord} (hm:BD c=true) (h:c.state=3\/c.state=4):(C3 c).state≠3/\(C3 c).state≠4:=by
 have e:=MV hm h;unfold C3;rw[Ug (λx=>x e)];split
 ·exact⟨by show(1:Int)≠3;decide,by show(1:Int)≠4;decide⟩
 ·show(if c.state=4 then(6:Int)else 5)≠3/\(if c.state=4 then(6:Int)else 5)≠4;split<;>exact⟨Ae,Ae⟩
theorem Ali {n:Nat} {i:Image} (h:Rch n i) (hn:n<=900) {mY:Int} {oC:Bool} {sA:Int} (ht:0<=mY/\mY<3) (h2:(Aj i.m mY).state=2) {q:Int} (hq:q=0\/q=1\/q=2):POk (A5 (Q4 i mY oC sA) q)/\TQ (n+1) (A5 (Q4 i mY oC sA) q)/\ ∀o∈(A5 (Q4 i mY oC sA) q).kI,o∈(A5 i q).kI/\o.lO≠(Aj i.m mY).lO:=by
 have m9:=(CZ h.vT.vW).mY mY;obtain⟨gI,hl⟩:=Hd (RW m9 Aa);have e:A5 (Q4 i mY oC sA) q=A5 (JU i mY oC sA).i q:=rfl;have eE:=h.vT.pok q hq;have qJ:=h.vT.tq q hq;rw[e];unfold JU;rw[Gd _ oC _ _ q gI hl hq];have e1:A5 (Dy i (AO i.m mY (Dd (Aj i.m mY) oC sA))) q=A5 i q:=rfl;have e2:(Dy i (AO i.m mY (Dd (Aj i.m mY) oC sA))).vQ=i.vQ:=rfl;simp only[e1,e2];split
 ·rename_i cK;rcases YQ (oC:=oC) (lO:=(Aj i.m mY).lO) eE h.vT.vQ hq with hE|⟨k,o,h1,h3,h4⟩
  ·rw[hE];refine⟨eE,qJ.up,λo ho=>⟨ho,λep=>?_⟩⟩;have hz:=Amx (e:=i.vQ) (q:=q) (p:=A5 i q) (lO:=(Aj i.m mY).lO) (oC:=oC) (by rw[hE]);rcases hz.2 with⟨hf,_⟩|⟨k,o',hk,dG,vI⟩
   ·have:=A5i.1 hf o ho;simp only[Uj]at this;exact this ep
   ·rw[hE]at vI;have hW:P3 i.vQ q o' oC=[]:=(A5s EO.w vI).symm;unfold P3 Qt at hW
    repeat' split at hW
    all_goals simp[EV]at hW
  ·rw[h4];have iU:=(eE.ook o (Apj h1)).1;have oG:=CM iU;have lX:=Hc (l:=o.gG) (λb hb=>(E2 iU b hb).1);have hf:=qJ.fin;refine⟨Aec eE h1 Aa,qJ.end Aa eE h1,λx hx=>?_⟩;have:=Px eE.vY h1 hx;exact⟨this.1,by rw[<-h3];exact this.2⟩
 ·rename_i cK;refine⟨eE,qJ.up,λo ho=>⟨ho,λep=>cK ?_⟩⟩;rw[h.parts mY ht,Aa9 hq,<-ep];exact UP ho
theorem Ap2 {n:Nat} {i:Image} (h:Rch n i) (hn:n<=900) {mY:Int} {oC:Bool} {sA:Int} (ht:0<=mY/\mY<3) (hp:CN (Aj i.m mY) oC sA=0) (h2:(Aj i.m mY).state=2):Pre (n+1) (Q4 i mY oC sA):=by
 obtain⟨hm,hf,hx⟩:=MI hp;have iD:=D5 (c:=Dd (Aj i.m mY) oC sA) ht h.vT.vW (J2 hm h2 hf hx) Y;have mD:BD (Aj (AO i.m mY (Dd (Aj i.m mY) oC sA)) mY)=true:=by rw[Gg _ ht];exact J2 hm h2 hf hx
 have d6:(Aj (AO i.m mY (Dd (Aj i.m mY) oC sA)) mY).state=3\/(Aj (AO i.m mY (Dd (Aj i.m mY) oC sA)) mY).state=4:=by rw[Gg _ ht];exact MH ..
 have nB:=Lo ht iD mD d6;have em:(Q4 i mY oC sA).m=DY (AO i.m mY (Dd (Aj i.m mY) oC sA)) mY:=rfl;have etg:(Q4 i mY oC sA).vQ=i.vQ:=(IF ..).2
 have key: ∀t,(0<=t/\t<3)->t≠mY->Aj (Q4 i mY oC sA).m t=Aj i.m t:=λt d5 aE=>by
  rw[em,TX _ ht d5,Ug aE,O4 _ ht d5 aE]
 refine⟨by rw[etg];exact h.vT.vQ,by rw[em];exact nB,λq hq=>(Ali h hn ht h2 hq).1,λq hq=>(Ali h hn ht h2 hq).2.1,λq hq o ho=>?_,λt d5=>?_⟩
 ·obtain⟨k1,k2⟩:=(Ali h hn ht h2 hq).2.2 o ho;refine RY h.vT.vW (by rw[em];exact nB) (λt d5 h1 h3=>?_) (h.vT.own q hq o k1);rw[key t d5 (λe=>k2 (by rw[<-e];exact h1.symm))];exact⟨h1,h3⟩
 ·by_cases e:t=mY
  ·rw[em,TX _ ht d5,WU e];exact Wx mD d6
  ·rw[key t d5 e];exact h.vT.st t d5
theorem Aka {n:Nat} {i:Image} (h:Rch n i) (hn:n<=900) {mY:Int} {oC:Bool} {sA:Int} (he:IB i mY oC sA=0):Rch (n+1) (Jp i mY oC sA).i:=by
 have es:Jp i mY oC sA=QV i mY oC sA:=by unfold Jp;rw[Ug (λx=>x he)]
 rw[es];unfold IB at he;split at he
 ·cases he
 ·rename_i h1;have ht:0<=mY/\mY<3:=Ya λx=>h1 (.inr x);split at he
  ·rename_i h2;exact absurd he h2
  ·rename_i h2;split at he
   ·cases he
   ·rename_i h3;exact(Ap2 h hn ht (A34.1 h2) (A34.1 h3)).set
theorem Aje {c:Coord} (hm:BD c=true):BD (DZ c)=true/\(DZ c).lO=c.lO/\(DZ c).lT=c.lT/\(DZ c).parts=c.parts/\(DZ c).state=c.state:=by
 unfold DZ;split
 ·exact⟨hm,Y,Y,Y,Y⟩
 ·rename_i h;obtain⟨_,_,hb⟩:=SQ (A34.1 h)
  have h2:c.state=2:=by
   unfold Ci at hb
   repeat' split at hb
   all_goals first
    |assumption
    |(simp at hb;done)
    |(cases hb;done)
  obtain⟨q1,q2,q3⟩:=(Ko h2).1 hm;obtain⟨r1,r2,r3,r4⟩:=Ce.1 q3;refine⟨(Ko (c:={c with vZ:=if c.vZ+1<=1048576 then c.vZ+1 else 1048576}) h2).2 ⟨q1,q2,Ce.2 ⟨r1,⟨r2.1,r2.2.1,r2.2.2.1,?_⟩,r3,r4⟩⟩,Y,Y,Y,Y⟩;show 0<=(if c.vZ+1<=1048576 then c.vZ+1 else 1048576)/\(if c.vZ+1<=1048576 then c.vZ+1 else 1048576)<=1048576;have:=r2.2.2.2;split<;>omega
theorem Aj9 {n:Nat} {i:Image} (h:Rch n i):Rch n (Dy i (IU i.m)):=by
 have ht:=CZ h.vT.vW
 have em:IU i.m=AO (AO (AO i.m 0 (DZ (Aj i.m 0))) 1 (DZ (Aj i.m 1))) 2 (DZ (Aj i.m 2)):=by
  unfold IU;rw[h.vT.vW];rfl
 have k:=λt=>Aje (ht.mY t)
 have hm:Bv (IU i.m)=true:=by
  rw[em];exact D5 Aa (D5 Aa (D5 Aa h.vT.vW (k 0).1 (k 0).2.1) (k 1).1 (k 1).2.1) (k 2).1 (k 2).2.1
 have et: ∀t,(0<=t/\t<3)->Aj (IU i.m) t=DZ (Aj i.m t):=λt ht=>by
  rw[em];rcases WM ht with rfl|rfl|rfl<;>rfl
 refine⟨h.vT.meta hm (λq hq o ho t d5 h1 h2=>?_) λt d5=>?_,λt d5=>?_⟩
 ·rw[et t d5,(k t).2.1,(k t).2.2.1];exact⟨h1,h2⟩
 ·rw[et t d5,(k t).2.2.2.2];exact h.vT.st t d5
 ·show(Aj (IU i.m) t).parts=BF i (Aj (IU i.m) t).lO;rw[et t d5,(k t).2.2.2.1,(k t).2.1];exact h.parts t d5
theorem Ad0 {b p:Pend} (h1:Nj b p=false) (h2: ¬(b.sZ=p.sZ/\b.part=p.part)):Nj p b=true:=by
 simp only[Nj,A7h,Uj]at h1⊢;omega
theorem Alb {b p c:Pend} (h:b.sZ=p.sZ/\b.part=p.part):Nj p c=Nj b c:=by
 unfold Nj;rw[h.1,h.2]
theorem RG {b p:Pend} {r:List Pend} (h:b.sZ=p.sZ/\b.part=p.part) (hr:CS (b::r)=true):CS (p::r)=true:=by
 cases r with
 |nil=>rfl
 |cons c r=>
  simp only[CS]at hr⊢;rw[Alb h];exact hr
theorem Yv (p:Pend): ∀{l:List Pend} {a:Pend},Nj a p=true->CS (a::l)=true->CS (a::G1 p l)=true
 |[],a,ha,_=>by simp[G1,CS,ha]
 |b::r,a,ha,h=>by
  have h':=h;simp only[CS,Qp]at h;unfold G1
  cases hb:Nj b p with
  |true=>
   simp only[Xs];have:=Yv p (l:=r) (a:=b) hb h.2;simp only[CS,Qp];exact⟨h.1,this⟩
  |false=>
   simp only[A0s,ZF];split
   ·rename_i hs;have:=RG hs h.2;simp only[CS,Qp];exact⟨ha,this⟩
   ·rename_i hs;simp only[CS,Qp];exact⟨ha,Ad0 hb hs,h.2⟩
theorem Ag2 (p:Pend): ∀{l:List Pend},CS l=true->CS (G1 p l)=true
 |[],_=>rfl
 |b::r,h=>by
  unfold G1
  cases hb:Nj b p with
  |true=>simp only[Xs];exact Yv p hb h
  |false=>
   simp only[A0s,ZF];split
   ·rename_i hs;exact RG hs h
   ·rename_i hs;simp only[CS,Qp];exact⟨Ad0 hb hs,h⟩
theorem Ad4 {p:Pend} (hp:AZ p=true): ∀{l:List Pend},l.all AZ=true->(G1 p l).all AZ=true
 |[],_=>by simp[G1,hp]
 |b::r,h=>by
  simp only[A6y,Qp]at h;unfold G1;split
  ·simp only[A6y,Qp];exact⟨h.1,Ad4 hp h.2⟩
  ·split
   ·simp only[A6y,Qp];exact⟨hp,h.2⟩
   ·simp only[A6y,Qp];exact⟨hp,h⟩
theorem Au6 (p:Pend) (l:List Pend):G1 p l≠[]:=by
 cases l with
 |nil=>simp[G1]
 |cons b r=>
  unfold G1
  repeat' split
  all_goals simp
theorem Ar9 {s:Int} (h:Ci s 1=true):s=2\/s=1\/s=5\/s=6:=by
 unfold Ci at h
 repeat' split at h
 all_goals first
  |omega
  |(simp at h;done)
  |(cases h;done)
theorem Ajr {c:Coord} {p:Pend} (h:IW c p=0):BD (R6 c p)=true:=by
 obtain⟨hp,hm,hb⟩:=SQ (show ER c 1 (AZ p)=0 from h);rw[MB h]
 have key:c.sA=0/\DJ c=true:=by
  rcases Ar9 hb with hs|hs
  ·have:=(Ko hs).1 hm;exact⟨this.2.1,this.2.2⟩
  ·have:=(Fb hs).1 hm;exact⟨this.1.1,this.2⟩
 obtain⟨r1,r2,r3,r4⟩:=Ce.1 key.2;exact(Ko Y).2 ⟨λx=>Au6 _ _ x.2,key.1,Ce.2 ⟨Ad4 hp r1,r2,r3,Ag2 p r4⟩⟩
theorem UO {c:Coord} {lO aP:Int} (h:EP c lO aP=0):BD (Ek c lO aP)=true:=by
 obtain⟨hm,hs,he,hp,ht⟩:=Sw h;rw[J9 h];split
 ·refine(Fb (.inl Y)).2 ⟨⟨Y,Y,Y,Y⟩,Ce.2 ⟨Y,⟨hp,⟨Ac,Ac⟩,ht,⟨Ac,Ac⟩⟩,Y,Y⟩⟩
 ·rename_i h0;have hr:=Iz (Fm hm h0);refine(Fb (.inl Y)).2 ⟨⟨Y,Y,Y,Y⟩,Ce.2 ⟨Y,⟨hr.1,⟨?_,?_⟩,ht,⟨Ac,Ac⟩⟩,Y,Y⟩⟩
  ·show 0<=c.lT+1;omega
  ·show c.lT+1<=100;omega
theorem Aba {s:MState} (hm:Bv s=true) (h:s.vP<8):Bv (DO s (s.vP+1))=true:=by
 simp only[Bv,DO,Qp,Uj]at hm⊢;obtain⟨h1,h2,h3,h4,h5⟩:=hm;exact⟨A32 Aa,⟨h2.1,A32 Aa⟩,⟨h3.1,A32 Aa⟩,⟨h4.1,A32 Aa⟩,h5⟩
theorem Agp {s:MState} {t:Int} {c:Coord} (ht:0<=t/\t<3) (hm:Bv s=true) (h:s.vP<8) (hc:BD c=true) (hp:c.lO=s.vP+1):Bv (DO (AO s t c) (s.vP+1))=true:=by
 simp only[Bv,FQ,Qp,Uj]at hm;obtain⟨h1,h2,h3,h4,⟨h5,h6,h7⟩,h8⟩:=hm;rcases WM ht with rfl|rfl|rfl
 all_goals
  simp only[AO,DO,Bv,FQ,Int.reduceEq,Xs,ZF,Qp,Uj,hc,hp,h2.1,h3.1,h4.1,A7b];refine⟨Aa,?_,?_,?_,⟨?_,?_,?_⟩,h8⟩
  all_goals first
   |omega
   |(intro x;omega)
   |assumption
theorem XX {s:MState} {x:MEntry} (hk:x.kind=0\/x.kind=1\/x.kind=2\/x.kind=5) (hm:Bv s=true) (hx:I4 x=true) (hv:J4 s x=0):Bv (EZ s x)=true:=by
 have hr:X0 x=true:=by unfold I4 at hx;simp only[Qp]at hx;exact hx.1
 rcases hk with hk|hk|hk|hk
 ·have e:EZ s x=DO s (s.vP+1):=by unfold EZ DO;simp only[hk,Xs]
  have: ¬8<=s.vP:=by
   intro h8;unfold J4 at hv;simp only[hk,Xs,WU h8]at hv;cases hv
  rw[e];exact Aba hm Aa
 ·have ht:0<=x.mY/\x.mY<3:=by
   unfold X0 at hr;rw[Ug Aa,WU hk]at hr;simp only[Qp,CU,Uj]at hr;exact hr.2
  have cY:(if 8<(if(Aj s x.mY).state=0 then s.vP+1 else(Aj s x.mY).lO)then(102:Int)else EP (Aj s x.mY) (if(Aj s x.mY).state=0 then s.vP+1 else(Aj s x.mY).lO) x.mZ)=0:=by
   unfold J4 at hv
   simpa[hk]using hv
  have e:EZ s x=if(Aj s x.mY).state=0 then DO (AO s x.mY (Ek (Aj s x.mY) (s.vP+1) x.mZ)) (s.vP+1)else AO s x.mY (Ek (Aj s x.mY) (Aj s x.mY).lO x.mZ):=by
   unfold EZ DO;simp[hk]
  rw[e];by_cases h0:(Aj s x.mY).state=0
  ·simp only[WU h0]at cY⊢;split at cY
   ·cases cY
   rename_i h8;refine Agp ht hm Aa (UO cY) ?_;rw[J9 cY,WU h0]
  ·simp only[Ug h0]at cY⊢;split at cY
   ·cases cY
   refine D5 ht hm (UO cY) ?_;rw[J9 cY,Ug h0]
 ·have ht:0<=x.mY/\x.mY<3:=by
   unfold X0 at hr;rw[Ug Aa,Ug Aa,WU hk]at hr;simp only[Qp,CU,Uj]at hr;exact hr.2
  have cY:IW (Aj s x.mY) x.vU=0:=by
   unfold J4 at hv
   simpa[hk]using hv
  have e:EZ s x=AO s x.mY (R6 (Aj s x.mY) x.vU):=by
   unfold EZ;simp[hk]
  rw[e];refine D5 ht hm (Ajr cY) ?_;rw[MB cY]
 ·have hp:AZ x.vU=true:=by
   unfold X0 at hr;rw[Ug Aa,Ug Aa,Ug Aa,Ug Aa,Ug Aa,WU hk]at hr;exact hr
  have e:EZ s x=Hw s x.vU.sZ x.vU.part x.vU.offset:=by
   unfold EZ;simp[hk]
  rw[e];simp only[AZ,Uj]at hp;exact UB hm (by simp only[HE,Uj];omega)
theorem Se {s:MState} {x:MEntry} (hk:x.kind=0\/x.kind=1\/x.kind=2\/x.kind=5) (hm:Bv s=true) (hx:I4 x=true):Ej s x=J4 s x:=by
 unfold Ej;rw[hm,hx];simp only[A50,or_self,ZF];by_cases h:J4 s x=0
 ·rw[Ug (λy=>y h),XX hk hm hx h,h];rfl
 ·rw[WU h]
theorem Ye:I4 e0=true:=by decide+kernel
theorem NQ {mY aP:Int} (h1:0<=mY/\mY<3) (h2:1<=aP/\aP<=20):I4 (e1 mY aP)=true:=by
 have e:Adn (e1 mY aP)=e1 mY aP:=rfl;unfold I4;rw[e];simp only[X0,e1,D9,Int.reduceEq,Xs,ZF,CU,Qp,Uj,A8b];exact⟨A32 h2,A32 h1⟩
theorem Yd {mY:Int} {p:Pend} (h1:0<=mY/\mY<3) (h2:AZ p=true):I4 (e2 mY p)=true:=by
 have e:Adn (e2 mY p)=e2 mY p:=rfl;unfold I4;rw[e];simp only[X0,e2,D9,Int.reduceEq,Xs,ZF,CU,Qp,Uj,A8b];exact⟨h2,A32 h1⟩
theorem Ak6 {p:Pend} (h2:AZ p=true):I4 (e5 p)=true:=by
 have e:Adn (e5 p)=e5 p:=rfl;unfold I4;rw[e];simp only[X0,e5,D9,Int.reduceEq,Xs,ZF,Qp,Uj,A8b];exact h2
end Go.Proofs.YtppffhlbcgpgdaaGreatDoor
namespace Go.Proofs.YtppffhlbcgpgdaaGreatDoor
open Go.Am
attribute [local irreducible] Decidable.decide Tr A6 CG EJ
def QG (b:Batch) (k:Nat) (r:Rec):Row:=⟨-1,b.lO,IntKind.i64.wrap (b.seq+k),r.key,r.value⟩
def BC (b:Batch):List Row:=b.rZ.mapIdx (QG b)
def Lj (o:Opn):List Row:=o.gG.flatMap BC
def Ck (l:List Opn):List Row:=l.flatMap Lj
def Em (p:Part) (n:Int):List Row:=p.rows.filter (λr=>decide (n<=r.offset))
def Ad2 (n:Int) (l:List Row):Int:=match l.getLast? with
 |some r=>r.offset+1
 |none=>n
def Ami (p:Part) (n:Int) (k:Nat) (oC:Bool):List Row:=if k<(Em p n).length then(Em p n).take k else if oC=true then Em p n else Em p n++(Ck p.kI).take (k-(Em p n).length)
def Amh (p:Part) (n:Int) (k:Nat):Int:=if k<(Em p n).length then Ad2 n ((Em p n).take k)else p.fin
theorem XK (l:List Opn):A3z 191 [.t (.slice .any 3 (l.map An))] [] (.t (.func (.func 240) [] [.ptr [.slice .any 3 (l.map An)]])) []:=by
 refine yF Tryz.func191 ?_;refine HA ?_;refine Jx Ai Y Y ?_
 repeat'(first|exact Au|refine yA ?_ ?_|refine⟨λh=>?_⟩|fail)
 refine A3q (cs:=[.slice .any 3 (l.map An)]) 1 2 Y Y Y Y ?_
 repeat'(first|exact Au|refine yC ?_ ?_|refine⟨λh=>?_⟩|fail)
 exact Ah Y (A3m Y)
theorem Apd (L:List Row) (k:Nat):((L.map Aw).drop 0).take (k-0)=(L.take k).map Aw:=by rw[A8q,Nat.sub_zero,A8v]
theorem R4 (L:List (List T)) (k:Nat) (h:L.length<=k):(L.drop 0).take (k-0)=L:=by rw[A8q,Nat.sub_zero,QQ h]
theorem Abe {n:Int} {L:List Row} {m:Nat} {r:Row} (h:L[m]?=some r):Ad2 n (L.take (m+1))=r.offset+1:=by
 rw[AB h];simp[Ad2]
theorem Aaa (p:Part) (n:Int) (k:Nat) (oC:Bool) (hs:p.rows.length<=1000000) (fI:Ju Row.offset p.rows) (jE: ∀r∈p.rows,-1000000<=r.offset/\r.offset<=1000000000) (hk:k<(Em p n).length):A3z 124 [.agg (Af (Ax p)),.t (.int .i64 n),.t (.int .i64 (k:Int)),.t (.bool oC)] [] (.tuple [.t (.slice .any 5 (((Em p n).take k).map Aw)),.t (.int .i64 (Ad2 n ((Em p n).take k)))]) []:=by
 have cfr:=QU p n hs fI;rw[show p.rows.filter (λr=>decide (n<=r.offset))=Em p n from rfl]at cfr;have hL:(Em p n).length<=1000000:=A47 (A65 ..) hs;have qM: ∀r∈Em p n,-1000000<=r.offset/\r.offset<=1000000000:=λr hr=>jE r (A6c.1 hr).1;generalize Em p n=L at cfr hk hL qM⊢;have cc:=L6 (L.take k) (by rw[A2i];omega);have aQ:(L.map Aw).length=L.length:=Ts ..;have cU:((L.take k).map Aw).length=k:=by rw[Ts,A2i];omega
 have cW:Si (k:Int) ((L.map Aw).length:Int)=(k:Int):=by unfold Si;rw[aQ,Ug Aa]
 have h1:=Apd L k;have h2:=R4 ((L.take k).map Aw) k Aa
 cases k with
 |zero=>
  refine yF Tryz.func124 ?_
  repeat'(first|exact Au|rw[cW]|refine yC ?_ ?_|refine⟨λh=>?_⟩|refine BA 13 9 ?_|refine HL Ai (l:=0) (h:=0) Y Y Y Y Y Y (Di Y Y) Jg Aa Aa (.inr ⟨Y,Y,Di Y Y,Y⟩) h1 Y ?_|refine HL Ai (l:=0) (h:=0) Y Y Y Y Y Y (Di Y Y) Jg Aa Aa (.inr ⟨Y,Y,Di Y Y,Y⟩) h2 Y ?_|refine CO Ai Y Y Y Y (cc) Y Y Y ⟨A9,trivial⟩ ?_|fail)
  all_goals first
   |exact Ah Y (As ⟨A9,A3l _,trivial⟩)
   |(exfalso;simp_all;done)
 |succ m=>
  have aC:m<L.length:=Aa;have hr:L[m]?=some L[m]:=Kv aC;have fT:=qM L[m] (Agz aC);generalize L[m]=r at hr fT;have gV:(L.take (m+1))[m]?=some r:=by rw[List.getElem?_take_of_lt Aa];exact hr
  have hw:IntKind.i64.wrap (((m+1:Nat):Int)-1)=(m:Int):=by rw[A1 Aa Aa];omega
  have dZ:IntKind.i64.wrap (r.offset+1)=r.offset+1:=A1 Aa Aa;rw[Abe hr];refine yF Tryz.func124 ?_
  repeat'(first|exact Au|rw[cW]|rw[hw]|rw[dZ]|refine yC ?_ ?_|refine⟨λh=>?_⟩|refine BA 13 9 ?_|refine HL Ai (l:=0) (h:=m+1) Y Y Y Y Y Y (Di Y Y) Jg Aa Aa (.inr ⟨Y,Y,Di Y Y,Y⟩) h1 Y ?_|refine HL Ai (l:=0) (h:=m+1) Y Y Y Y Y Y (Di Y Y) Jg Aa Aa (.inr ⟨Y,Y,Di Y Y,Y⟩) h2 Y ?_|refine CO Ai Y Y Y Y (cc) Y Y Y ⟨A9,trivial⟩ ?_|fail)
  all_goals first
   |exact Ah Y (As ⟨A9,A3l _,trivial⟩)
   |(exfalso;omega)
theorem ZZ (p:Part) (n:Int) (k:Nat) (hs:p.rows.length<=1000000) (fI:Ju Row.offset p.rows) (hk:(Em p n).length<=k):A3z 124 [.agg (Af (Ax p)),.t (.int .i64 n),.t (.int .i64 (k:Int)),.t (.bool true)] [] (.tuple [.t (.slice .any 5 ((Em p n).map Aw)),.t (.int .i64 p.fin)]) []:=by
 have cfr:=QU p n hs fI;rw[show p.rows.filter (λr=>decide (n<=r.offset))=Em p n from rfl]at cfr;have hL:(Em p n).length<=1000000:=A47 (A65 ..) hs;generalize Em p n=L at cfr hk hL⊢;have cc:=L6 L hL;have aQ:(L.map Aw).length=L.length:=Ts ..
 have cW:Si (k:Int) ((L.map Aw).length:Int)=((L.map Aw).length:Int):=by
  unfold Si;rw[aQ];split<;>omega
 have h2:=R4 (L.map Aw) (L.map Aw).length (WW _);refine yF Tryz.func124 ?_
 repeat'(first|exact Au|rw[cW]|refine yC ?_ ?_|refine⟨λh=>?_⟩|refine BA 13 9 ?_|refine HL Ai (l:=0) (h:=(L.map Aw).length) Y Y Y Y Y Y (Di Y Y) Jg (WW _) (A5t _) (.inr ⟨Y,Y,Di Y Y,Y⟩) h2 Y ?_|refine N4 (l:=0) (h:=(L.map Aw).length) Y Y Y Y Y Y (Di Y Y) Jg (WW _) (A5t _) (.inr ⟨Y,Y,Di Y Y,Y⟩) h2 Y ?_|refine CO Ai Y Y Y Y (cc) Y Y Y ⟨A9,trivial⟩ ?_|fail)
 all_goals first
  |exact Ah Y (As ⟨A9,A3l _,trivial⟩)
  |(exfalso;omega)
theorem YA {α β:Type} {f:α->List β} {l:List α} {i:Nat} {a:α} (h:l[i]?=some a):l.flatMap f=(l.take i).flatMap f++(f a++(l.drop (i+1)).flatMap f):=by
 conv=>lhs;rw[<-A5j i l,CL h]
 simp[A7u,A66]
theorem Ad7 {α β:Type} {f:α->List β} {l:List α} {i:Nat} {a:α} (h:l[i]?=some a):(l.take (i+1)).flatMap f=(l.take i).flatMap f++f a:=by
 rw[AB h];simp[A7u]
theorem Aug {b:Batch} {k:Nat} {r:Rec} (h:b.rZ[k]?=some r):(BC b)[k]?=some (QG b k r):=by
 unfold BC;rw[List.getElem?_mapIdx,h];rfl
theorem Auf (b:Batch):(BC b).length=b.rZ.length:=by unfold BC;simp
theorem Avl {L S R Z:List Row} {k:Nat} (h:Z=S++R) (hk:(L++S).length=k):L++S=L++Z.take (k-L.length):=by
 have:k-L.length=S.length:=by rw[Xp]at hk;omega
 rw[this,h,List.take_left'];rfl
theorem Avd {L Z:List Row} {k:Nat} (hk:(L++Z).length<=k):L++Z=L++Z.take (k-L.length):=by
 rw[QQ];rw[Xp]at hk;omega
theorem Azz {P:Program} {n:Nat} {env:A2} {σ σ':St} {code:Code} {K:Exit->A2->St->Prop} (hs: ∀b,Am.look σ' b=Am.look σ b) (h:Tr P n code env σ' K):Tr P n code env σ K:=by
 unfold Tr at h⊢;exact λF hF bP w g a hg=>h F hF bP w g a (hg.eqv (λ_=>rfl) hs)
theorem Alc {a b c:Nat} {A B C:Blk} {r:St} (h1:a≠c) (h2:b≠c) (k:Nat):Am.look ((c,C)::(a,A)::(b,B)::r) k=Am.look ((a,A)::(b,B)::(c,C)::r) k:=by
 simp only[Ap];by_cases e:c=k
 ·subst e;simp[h1,h2]
 ·simp[e]
def FV (L S:List Row):List (List T):=(L++S).map Aw
theorem ZY (p:Part) (n:Int) (k:Nat) (hs:p.rows.length<=1000000) (iK:p.kI.length<=1000000/\ ∀o∈p.kI,Iw o) (fI:Ju Row.offset p.rows) (hk:(Em p n).length<=k) (g9:k<=1000):A3z 124 [.agg (Af (Ax p)),.t (.int .i64 n),.t (.int .i64 (k:Int)),.t (.bool false)] [] (.tuple [.t (.slice .any 5 ((Em p n++(Ck p.kI).take (k-(Em p n).length)).map Aw)),.t (.int .i64 p.fin)]) []:=by
 have cfr:=QU p n hs fI;rw[show p.rows.filter (λr=>decide (n<=r.offset))=Em p n from rfl]at cfr;have hL:(Em p n).length<=1000000:=A47 (A65 ..) hs;generalize Em p n=L at cfr hk hL⊢;have cc:=K3 L hL;have cp:=XK p.kI;have aQ:(L.map Aw).length=L.length:=Ts ..
 have cW:Si (k:Int) ((L.map Aw).length:Int)=((L.map Aw).length:Int):=by
  unfold Si;rw[aQ];split<;>omega
 have h2:=R4 (L.map Aw) (L.map Aw).length (WW _);refine yF Tryz.func124 ?_
 repeat'(first|refine Ew Ai [] [(14,50)] Y Y Y Y Y (cc.args ⟨A9,trivial⟩) Y Y Y Y Y ?_|exact Au|rw[cW]|refine yC ?_ ?_|refine⟨λh=>?_⟩|refine BA 13 9 ?_|refine HL Ai (l:=0) (h:=(L.map Aw).length) Y Y Y Y Y Y (Di Y Y) Jg (WW _) (A5t _) (.inr ⟨Y,Y,Di Y Y,Y⟩) h2 Y ?_|fail)
 all_goals try(exfalso;omega)
 refine Tr.weak (E:=[(4,.ref 8 0),(6,.ref 12 0),(12,.ref 24 0),(48,.t (.func (.func 240) [] [.ptr [.slice .any 3 (p.kI.map An)]]))]) (S:=[(24,.cells [.row 50 5 0 (FV L []).length]),(50,.grow 5 (FV L [])),(12,.cells [.t (.int .i64 (k:Int))]),(8,.cells (Af (Ax p)))]) ?_ (Bb [] (Ag Y Y (Ag Y Y (Ag Y Y (Ag Y Y A8)))) (by rw[show FV L []=L.map Aw by simp[FV]];rfl))
 have fin: ∀A:List (List T),A=(L++(Ck p.kI).take (k-L.length)).map Aw->At [(4,.ref 8 0),(12,.ref 24 0)] [(24,.cells [.t (.slice .any 5 ((L++(Ck p.kI).take (k-L.length)).map Aw))]),(8,.cells (Af (Ax p)))] (IM 50 5 A [(4,.ref 8 0),(12,.ref 24 0)]) (Gf 50 5 A [(50,.grow 5 A),(24,.cells [.row 50 5 0 A.length]),(8,.cells (Af (Ax p)))]):=by
  rintro A rfl;refine Bb [] Aa6 ?_;show[(24,Blk.cells [BG 50 5 _ (.row 50 5 0 _)]),(8,Blk.cells (F6 50 5 _ (Af (Ax p))))]=_;rw[QT _ _ _ _ Y];rfl
 refine Ac4 Ai Y Tryz.func240 Y Y (λl=>?_);generalize hB:Blk.loop l .ready none _ _ _ _ _=B;have eT:(p.kI.map An).length=p.kI.length:=Ts ..
 repeat'(first|exact Au|refine yC ?_ ?_|refine⟨λh=>?_⟩|fail)
 refine Azz (Alc Ae Ae) ?_;refine AW (ι:=Nat) (λi=>i<=p.kI.length/\(L++Ck (p.kI.take i)).length<=k) (λi=>[(0,.t (.func (.yield l) [] [])),(9,.t (.slice .any 3 (p.kI.map An))),(10,.t (.int .i64 ((p.kI.map An).length:Int))),(11,.t (.int .i64 i))]) (λi=>[(101,.grow 5 (FV L (Ck (p.kI.take i)))),(KM,B),(49,.cells [.row 101 5 0 (FV L (Ck (p.kI.take i))).length]),(25,.cells [.t (.int .i64 (k:Int))]),(17,.cells (Af (Ax p)))]) (λi=>p.kI.length-i) 0 (by simp[Ck];omega) ?_ ?_
 ·exact Bb [] Aa6 Y
 rintro i ⟨hi,fO⟩;by_cases aC:i<p.kI.length
 ·have hr:p.kI[i]?=some p.kI[i]:=Kv aC;have cA:=iK.2 p.kI[i] (Agz aC);generalize p.kI[i]=o at hr cA;have f8:(o.gG.map Ak).length=o.gG.length:=Ts ..;have kV:=cA.1;have n7:Ck p.kI=Ck (p.kI.take i)++(Lj o++Ck (p.kI.drop (i+1))):=YA hr;have qL:Ck (p.kI.take (i+1))=Ck (p.kI.take i)++Lj o:=Ad7 hr;generalize Ck (p.kI.take i)=S0 at fO n7 qL⊢;generalize Ck (p.kI.drop (i+1))=R0 at n7
  repeat'(first|exact Au|refine yC ?_ ?_|refine⟨λh=>?_⟩|fail)
  all_goals try(exfalso;omega)
  refine AW (ι:=Nat) (λj=>j<=o.gG.length/\(L++(S0++(o.gG.take j).flatMap BC)).length<=k) (λj=>[(0,.t (.func (.yield l) [] [])),(9,.t (.slice .any 3 (p.kI.map An))),(10,.t (.int .i64 ((p.kI.map An).length:Int))),(11,.t (.int .i64 i)),(16,.t (.slice .any 5 (o.gG.map Ak))),(17,.t (.int .i64 ((o.gG.map Ak).length:Int))),(18,.t (.int .i64 j))]) (λj=>[(101,.grow 5 (FV L (S0++(o.gG.take j).flatMap BC))),(KM,B),(49,.cells [.row 101 5 0 (FV L (S0++(o.gG.take j).flatMap BC)).length]),(25,.cells [.t (.int .i64 (k:Int))]),(17,.cells (Af (Ax p)))]) (λj=>o.gG.length-j) 0 (by simp;simpa using fO) ?_ ?_
  ·subst hB;exact Bb [4] Aa6 (by simp only[A6t,A7p,A5u];rfl)
  rintro j ⟨hj,pJ⟩;by_cases eR:j<o.gG.length
  ·have gV:o.gG[j]?=some o.gG[j]:=Kv eR;have rN:=cA.2 o.gG[j] (Agz eR);generalize o.gG[j]=b at gV rN;have oB:(b.rZ.map AX).length=b.rZ.length:=Ts ..;have rU:Lj o=(o.gG.take j).flatMap BC++(BC b++(o.gG.drop (j+1)).flatMap BC):=YA gV;have n6:(o.gG.take (j+1)).flatMap BC=(o.gG.take j).flatMap BC++BC b:=Ad7 gV;generalize(o.gG.take j).flatMap BC=S1 at pJ rU n6⊢;generalize(o.gG.drop (j+1)).flatMap BC=R1 at rU
   repeat'(first|exact Au|refine yC ?_ ?_|refine⟨λh=>?_⟩|fail)
   all_goals try(exfalso;omega)
   refine A3q (cs:=Ak b) 6 12 Y Y Y Y ?_;refine AW (ι:=Nat) (λm=>m<=b.rZ.length/\(L++(S0++(S1++(BC b).take m))).length<=k) (λm=>[(0,.t (.func (.yield l) [] [])),(6,.t (.ptr (Ak b))),(9,.t (.slice .any 3 (p.kI.map An))),(10,.t (.int .i64 ((p.kI.map An).length:Int))),(11,.t (.int .i64 i)),(16,.t (.slice .any 5 (o.gG.map Ak))),(17,.t (.int .i64 ((o.gG.map Ak).length:Int))),(18,.t (.int .i64 j)),(23,.t (.slice .any 2 (b.rZ.map AX))),(24,.t (.int .i64 ((b.rZ.map AX).length:Int))),(25,.t (.int .i64 m))]) (λm=>[(101,.grow 5 (FV L (S0++(S1++(BC b).take m)))),(KM,B),(49,.cells [.row 101 5 0 (FV L (S0++(S1++(BC b).take m))).length]),(25,.cells [.t (.int .i64 (k:Int))]),(17,.cells (Af (Ax p)))]) (λm=>b.rZ.length-m) 0 (by simp;simpa using pJ) ?_ ?_
   ·subst hB;exact Bb [] Aa6 (by simp only[A6t,A5u];rfl)
   rintro m ⟨hm,nF⟩;by_cases nC:m<b.rZ.length
   ·have uP:b.rZ[m]?=some b.rZ[m]:=Kv nC;generalize b.rZ[m]=r at uP;have hq:=Aug uP;have eU:BC b=(BC b).take m++(BC b).drop m:=(A5j m _).symm;have rM:(BC b).take (m+1)=(BC b).take m++[QG b m r]:=AB hq;generalize(BC b).take m=S2 at nF eU rM⊢;have uY:(FV L (S0++(S1++S2))).length=(L++(S0++(S1++S2))).length:=Ts ..;have oO:FV L (S0++(S1++(BC b).take (m+1)))=FV L (S0++(S1++S2))++[Aw (QG b m r)]:=by rw[rM];simp[FV]
    have u9:(L++(S0++(S1++S2))).length=k->FV L (S0++(S1++S2))=(L++(Ck p.kI).take (k-L.length)).map Aw:=by
     intro hk;unfold FV;rw[Avl (Z:=Ck p.kI) (R:=(BC b).drop m++(R1++R0)) ?_ hk];rw[n7,rU]
     conv=>lhs;rw[eU]
     simp only[A33]
    generalize FV L (S0++(S1++S2))=A at uY oO u9⊢;subst hB
    repeat'(first|exact Au|refine yC ?_ ?_|refine⟨λh=>?_⟩|refine Ac2 (b:=KM) Y Y Y Y Y Y Y Y Y Y ?_|refine⟨Y,_,Y,?_⟩|refine⟨_,_,_,_,Y,Y,_,Y,?_⟩|fail)
    ·refine⟨.inr Y,Y,_,_,_,_,Y,Ac,Y,?_⟩;refine Tr.weak (E:=[(4,.ref 8 0),(12,.ref 24 0)]) (S:=[(50,.grow 5 A),(24,.cells [.row 50 5 0 A.length]),(8,.cells (Af (Ax p)))]) ?_ (Bb [6] (Ag Y Y (Ag Y Y A8)) Y);refine A3x 50 Y ?_;refine Tr.weak ?_ (fin A (u9 Aa));generalize(L++(Ck p.kI).take (k-L.length)).map Aw=Z;have hz:=R4 Z Z.length (WW _)
     repeat'(first|exact Au|refine yC ?_ ?_|refine⟨λh=>?_⟩|refine BA 13 9 ?_|refine N4 (l:=0) (h:=Z.length) Y Y Y Y Y Y (Di Y Y) Jg (WW _) (A5t _) (.inr ⟨Y,Y,Di Y Y,Y⟩) hz Y ?_|fail)
     all_goals first
      |exact Ah Y (As ⟨A9,A3l _,trivial⟩)
    ·refine AM (m+1) ⟨nC,?_⟩ Aa [8,13] (Ag Y Y (Ag Y Y (Ag Y Y (Ag Y Y (Ag Y Y (Ag Y Y (Ag Y Y (Ag Y Y (Ag Y Y (Ag Y Y (Ag Y (by rw[A1 Aa Aa];rfl) A8))))))))))) ?_
     ·rw[rM];simp only[Xp,A8g]at uY nF⊢;omega
     ·rw[oO];rfl
   ·have i7:m=b.rZ.length:=Aa;have htm:(BC b).take m=BC b:=QQ (by rw[Auf];omega);rw[htm]at nF⊢
    repeat'(first|exact Au|refine yC ?_ ?_|refine⟨λh=>?_⟩|fail)
    all_goals try(exfalso;omega)
    refine AM (j+1) ⟨eR,by rw[n6];exact nF⟩ Aa [] (Ag Y Y (Ag Y Y (Ag Y Y (Ag Y Y (Ag Y Y (Ag Y Y (Ag Y (by rw[A1 Aa Aa];rfl) A8))))))) ?_;rw[n6];subst hB;rfl
  ·have sO:o.gG.take j=o.gG:=QQ Aa;rw[sO]at pJ⊢;rw[show o.gG.flatMap BC=Lj o from rfl]at pJ⊢
   repeat'(first|exact Au|refine yC ?_ ?_|refine⟨λh=>?_⟩|fail)
   all_goals try(exfalso;omega)
   refine AM (i+1) ⟨aC,by rw[qL];exact pJ⟩ Aa [] (Ag Y Y (Ag Y Y (Ag Y Y (Ag Y (by rw[A1 Aa Aa];rfl) A8)))) ?_;rw[qL];rfl
 ·have hit:p.kI.take i=p.kI:=QQ Aa;rw[hit]at fO⊢
  have hA:FV L (Ck p.kI)=(L++(Ck p.kI).take (k-L.length)).map Aw:=by
   unfold FV;rw[Avd fO]
  generalize FV L (Ck p.kI)=A at hA⊢;subst hB
  repeat'(first|exact Au|refine yC ?_ ?_|refine⟨λh=>?_⟩|fail)
  all_goals try(exfalso;omega)
  refine⟨.inl Y,Y,_,_,_,_,Y,Ac,Y,?_⟩;refine Tr.weak (E:=[(4,.ref 8 0),(12,.ref 24 0)]) (S:=[(50,.grow 5 A),(24,.cells [.row 50 5 0 A.length]),(8,.cells (Af (Ax p)))]) ?_ (Bb [6] (Ag Y Y (Ag Y Y A8)) Y);refine A3x 50 Y ?_;refine Tr.weak ?_ (fin A hA);generalize(L++(Ck p.kI).take (k-L.length)).map Aw=Z;have hz:=R4 Z Z.length (WW _)
  repeat'(first|exact Au|refine yC ?_ ?_|refine⟨λh=>?_⟩|refine BA 13 9 ?_|refine N4 (l:=0) (h:=Z.length) Y Y Y Y Y Y (Di Y Y) Jg (WW _) (A5t _) (.inr ⟨Y,Y,Di Y Y,Y⟩) hz Y ?_|fail)
  all_goals first
   |exact Ah Y (As ⟨A9,A3l _,trivial⟩)
def GX (i:Image):Image:=Dy i (IU i.m)
theorem SmallM.tick {s:MState} (h:SmallM s):SmallM (IU s):=by
 unfold IU;split
 ·exact h
 ·exact⟨IV h.t0,IV h.t1,IV h.t2⟩
theorem SmallI.tick {i:Image} (h:SmallI i):SmallI (GX i):=⟨h.p0,h.p1,h.p2,h.m.tick.t0,h.m.tick.t1,h.m.tick.t2⟩
theorem XI (i:Image) (hs:SmallI i):A3z 85 [.agg (Af (Ao i))] [] (.agg (Af (Ao (GX i)))) []:=by
 have ci:=Pt i hs;have ct:=Ahn i.m hs.m;have cf:=UQ (IU i.m) hs.m.tick.t0 hs.m.tick.t1 hs.m.tick.t2;unfold GX;generalize IU i.m=s at ct cf⊢;refine yF Tryz.func85 ?_
 repeat'(first|exact Au|refine yC ?_ ?_|refine⟨λh=>?_⟩|fail)
 all_goals first
  |exact Ah Y (A3m Y)
theorem Akc (i T:Image) (r:Req) (cT:A3z 85 [.agg (Af (Ao i))] [] (.agg (Af (Ao T))) []) (D:List Int) (cD:A3z 86 [.agg (Af (Az T.m))] [] (.t (.slice .any 1 (D.map Cy))) []) (hD:D.length<=10)
  (S:Nat->List Step) (h0:S 0=[⟨[],T⟩]) (hS: ∀k mY,D[k]?=some mY->(S k).length<=100/\ ∃(m:Nat) (s st:Step) (e:Int),(S k).length=m+1/\(S k)[m]?=some s/\A3z 20 [.agg (Af (Ao s.i)),.t (.int .i64 mY),.t (.bool false),.t (.int .i64 0)] [] (.tuple [.agg (Af (Bx st)),.t (.int .i64 e)]) []/\S (k+1)=if e=0 then S k++[st]else S k):
  A3z 57 [.ref 1 0] [(1,.cells (Af (Ao i++A7 r)))] (.tuple [.t (.slice .any 48 ((S D.length).map Bx)),.agg (Af (Bw (BO 0 0))),.t .nilIface]) [(1,.cells (Af (Ao i++A7 r)))]:=by
 obtain⟨kind,rtid,aP,lO,ep,part,grp,off,most,oC,b⟩:=r;have aQ:(D.map Cy).length=D.length:=Ts ..;refine yG Tryz.func57 ?_
 repeat'(first|exact Au|refine QC Ai Y Y Y Y Y Y Y Y ?_|refine yC ?_ ?_|refine⟨λh=>?_⟩|refine Cb Ai (kc:=0) Y Y Y Y Y Y Y Y Ae Y ?_|refine F8 Ai Y Y Y Y Y Y Y Y Y ?_|fail)
 refine Tr.subGrow (es':=[Bx ⟨[],T⟩]) 32 Y (show E7 [_::_] [_::_]from⟨⟨AD.nil,A3v _⟩,trivial⟩) ?_;refine AW (ι:=Nat) (λk=>k<=D.length) (λk=>[(0,.ref 1 0),(3,.ref 6 0),(5,.row 32 48 0 ((S k).map Bx).length),(22,.t (.slice .any 1 (D.map Cy))),(23,.t (.int .i64 ((D.map Cy).length:Int))),(24,.t (.int .i64 k))]) (λk=>[(32,.grow 48 ((S k).map Bx)),(6,.cells (Af Ao5.zero)),(1,.cells (Af (Ao i++A7 ⟨kind,rtid,aP,lO,ep,part,grp,off,most,oC,b⟩)))]) (λk=>D.length-k) 0 Ac ?_ ?_
 ·exact Bb [] (Ag Y Y (Ag Y Y (Ag Y (by rw[h0];rfl) Aa6))) (by rw[h0];rfl)
 rintro k hk;by_cases aC:k<D.length
 ·have hr:D[k]?=some D[k]:=Kv aC;generalize D[k]=mY at hr;obtain⟨uI,m,s,st,e,hm,cS,cf,hn⟩:=hS k mY hr;have dN:((S k).map Bx)[0+m]?=some (Bx s):=by rw[Atj];exact C8 cS
  have hls:((S k).map Bx).length=m+1:=by rw[Ts,hm]
  have hw:IntKind.i64.wrap ((((S k).map Bx).length:Int)-1)=(m:Int):=by rw[A1 Aa Aa];omega
  have jM:(S k++[st]).map Bx=(S k).map Bx++[Bx st]:=Ac;generalize S k=Q at hm cS hn dN hls hw jM uI⊢;by_cases he:e=0
  ·rw[WU he]at hn;subst he
   repeat'(first|exact Au|rw[hw]|refine yC ?_ ?_|refine⟨λh=>?_⟩|refine BZ cf ?_|refine Cb Ai (kc:=m) Y Y Y Y Y Y Y Y Aa Y ?_|refine F8 Ai Y Y Y Y Y dN Y Y Y ?_|fail)
   all_goals first
    |(refine AM (k+1) aC Aa [8] (Ag Y Y (Ag Y Y (Ag Y ?_ (Ag Y Y (Ag Y Y (Ag Y (by rw[A1 Aa Aa];rfl) A8)))))) ?_
      all_goals(rw[hn,jM];rfl))
    |(exfalso;omega)
  ·rw[Ug he]at hn
   repeat'(first|exact Au|rw[hw]|refine yC ?_ ?_|refine⟨λh=>?_⟩|refine BZ cf ?_|refine Cb Ai (kc:=m) Y Y Y Y Y Y Y Y Aa Y ?_|refine F8 Ai Y Y Y Y Y dN Y Y Y ?_|fail)
   all_goals first
    |(refine AM (k+1) aC Aa [8] (Ag Y Y (Ag Y Y (Ag Y ?_ (Ag Y Y (Ag Y Y (Ag Y (by rw[A1 Aa Aa];rfl) A8)))))) ?_
      all_goals(rw[hn];rfl))
    |(exfalso;omega)
 ·have kY:k=D.length:=Aa;subst kY;have dV:BG 32 48 ((S D.length).map Bx) (.row 32 48 0 ((S D.length).map Bx).length)=.t (.slice .any 48 ((S D.length).map Bx)):=QT _ _ _ _ Y
  repeat'(first|exact Au|refine FA 5 32 Y Y Y dV ?_|refine yC ?_ ?_|refine⟨λh=>?_⟩|fail)
  all_goals first
   |(refine A0 [3] Y Y Y (As ⟨A3l _,AC ?_,A3l _,trivial⟩)
     exact AA)
   |(exfalso;omega)
def ZU (k:Int):Nat:=if k=0 then 48 else if k=1 then 49 else if k=2 then 50 else if k=3 then 51 else if k=4 then 52 else if k=5 then 53 else if k=6 then 54 else if k=7 then 55 else if k=8 then 56 else 57
theorem Ai3 {P:Program} {c:Conf} {n:Nat} {ops:Array Oper} {aD:List Oper} {env:A2} {σ:St} {o:Oper} {k:A2->St->Prop} (aY:ProgOk P c) {t et b:Nat} {ok:Bool} {m q:Operand} {kk:IntKind} {nn:Int} {ks:List T} {xs:List AV} {y:AV} {e2:A2} (hg:o.guard=none) (ho:o.op=.lookup t m q ok) (ht:UD c.te t=some et) (hk:ev env q=some (.t (.int kk nn))) (hm:ev env m=some (.mref b)) (hb:Am.look σ b=some (.mp ks xs)) (hy:LR c.te et ok kk nn ks xs=some y) (hp:BM n o.dst y env=some e2) (h:A6 P n ops aD e2 σ k):A6 P n ops (o::aD) env σ k:=by
 refine DQ aY (x:=y) (e:=env) (s:=σ) hg ?_ hp h;unfold ES;rw[ho];simp only[VY,ho,ht,hk,hm,hb,hy]
def A2f (l:Nat):List AV:=[.func (.func 48) [.ref l 0] [],.func (.func 49) [.ref l 0] [],.func (.func 50) [.ref l 0] [],.func (.func 51) [.ref l 0] [],.func (.func 52) [.ref l 0] [],.func (.func 53) [.ref l 0] [],.func (.func 54) [.ref l 0] [],.func (.func 55) [.ref l 0] [],.func (.func 56) [.ref l 0] [],.func (.func 57) [.ref l 0] []]
theorem Akw {kind:Int} (hk:0<=kind/\kind<=9):LR Rb.te 93 true .i8 kind [.int .i8 0,.int .i8 1,.int .i8 2,.int .i8 3,.int .i8 4,.int .i8 5,.int .i8 6,.int .i8 7,.int .i8 8,.int .i8 9] (A2f 54)=some (.tuple [.func (.func (ZU kind)) [.ref 54 0] [],.t (.bool true)]):=by
 obtain rfl|rfl|rfl|rfl|rfl|rfl|rfl|rfl|rfl|rfl:kind=0\/kind=1\/kind=2\/kind=3\/kind=4\/kind=5\/kind=6\/kind=7\/kind=8\/kind=9:=Aa
 all_goals rfl
def Qz:Option Int->T
 |none=>.nilIface
 |some n=>H3 n
def Ap9 (k:Int) (ss:List (List T)) (y:Reply):Option Int->AV
 |none=>.tuple [.t (.slice .any 48 ss),.agg (Af (Bw {y with kind:=k})),.t (.int .i64 0)]
 |some n=>.tuple [.t (.slice .any 48 []),.agg (Af (Bw (BO k n))),.t (.int .i64 0)]
set_option maxHeartbeats 16000000 in
theorem Akh (i K:Image) (r r':Req) (hs:SmallI i) (hl:r.b.rZ.length<=1000000) (hc:GK i=true) (cm:A3z 28 [.agg (Af (A7 r))] [] (.t (.bool true)) []) (hk:0<=r.kind/\r.kind<=9) (ss:List (List T)) (y:Reply) (er:Option Int) (cb:A3z (ZU r.kind) [.ref 1 0] [(1,.cells (Af (Ao i++A7 r)))] (.tuple [.t (.slice .any 48 ss),.agg (Af (Bw y)),.t (Qz er)]) [(1,.cells (Af (Ao K++A7 r')))]):A3z 11 [.agg (Af (Ao i)),.agg (Af (A7 r))] [] (Ap9 r.kind ss y er) []:=by
 have cc:=Kf i hs;rw[hc,WU Y]at cc;have ci:=Pt i hs;have cr:=Ara r hl;have ct:=Aa8 (Af (Ao i++A7 r));have ce:=λn=>Afy n;have cU:=Akw hk;obtain⟨kind,mY,aP,lO,ep,part,grp,off,most,oC,b⟩:=r;simp only at hk cU cc cm ci cr ct cb⊢;refine Ra Ai Tryz.func11 Y false Y (by cases er<;>rfl) ?_
 repeat'(first|exact Au|refine yC ?_ ?_|refine⟨λh=>?_⟩|refine BA 3 3 ?_|refine BA 11 3 ?_|fail)
 all_goals try(exfalso;simp_all;done)
 refine Ai2 (ι:=Unit) (λ_=>True) (λ_=>[(3,.ref 6 0),(5,.ref 10 0),(8,.func (.func (ZU kind)) [.ref 54 0] []),(9,.t (.bool true))]) (λ_=>[(54,.cells (Af (Ao i++A7 ⟨kind,mY,aP,lO,ep,part,grp,off,most,oC,b⟩))),(10,.cells (Af Ao5.zero)),(6,.cells (Af (A7 ⟨kind,mY,aP,lO,ep,part,grp,off,most,oC,b⟩)))]) (λ_ _ h=>h) ?_ ?_
 ·clear cb ce cc cm ci cr hc hs hl;refine WF (f:=10) Ai Y Y ?_
  repeat'(first|exact Au|refine yA ?_ ?_|refine⟨λh=>?_⟩|refine Ai3 Ai Y Y Y Y Y Y cU Y ?_|refine BT [(54,1)] [(6,60),(1,54)] ct ?_|refine Aei (by decide+kernel) ?_|refine JK (i:=0) (by decide+kernel) Y ?_|refine JK (i:=1) (by decide+kernel) Y ?_|refine JK (i:=2) (by decide+kernel) Y ?_|refine JK (i:=3) (by decide+kernel) Y ?_|refine JK (i:=4) (by decide+kernel) Y ?_|refine JK (i:=5) (by decide+kernel) Y ?_|refine JK (i:=6) (by decide+kernel) Y ?_|refine JK (i:=7) (by decide+kernel) Y ?_|refine JK (i:=8) (by decide+kernel) Y ?_|refine JK (i:=9) (by decide+kernel) Y ?_|refine LA (i:=0) (j:=2) (by decide+kernel) Y Y ?_ ?_|refine LA (i:=1) (j:=2) (by decide+kernel) Y Y ?_ ?_|refine LA (i:=0) (j:=3) (by decide+kernel) Y Y ?_ ?_|refine LA (i:=1) (j:=3) (by decide+kernel) Y Y ?_ ?_|refine LA (i:=6) (j:=7) (by decide+kernel) Y Y ?_ ?_|refine LA (i:=7) (j:=8) (by decide+kernel) Y Y ?_ ?_|refine LA (i:=6) (j:=9) (by decide+kernel) Y Y ?_ ?_|refine LA (i:=8) (j:=9) (by decide+kernel) Y Y ?_ ?_|fail)
  all_goals exact Aaw () trivial [2,30] Aa6 Y
 rintro _ _
 cases er with
 |none=>
  simp only[Qz]at cb
  repeat'(first|exact Au|refine yC ?_ ?_|refine⟨λh=>?_⟩|refine BA 3 3 ?_|refine BA 11 3 ?_|refine D4 11 3 [(3,10)] [0,0,1,7,15] ?_|refine BT [(54,1)] [(1,54)] cb ?_|fail)
  all_goals first
   |exact Ah Y (A3m Y)
   |(exfalso;simp_all;done)
 |some n=>
  simp only[Qz]at cb
  repeat'(first|exact Au|refine yC ?_ ?_|refine⟨λh=>?_⟩|refine BA 3 3 ?_|refine BA 11 3 ?_|refine D4 9 6 [(6,10)] [0,1,0,4,15,12,63,127] ?_|refine Anx ?_ (c:=ce _)|refine Ab0 ?_ (c:=ce _)|refine BT [(54,1)] [(1,54)] cb ?_|fail)
  all_goals first
   |(refine Ah Y (As ⟨Ay,AC ?_,A3l _,trivial⟩)
     exact AA)
   |(exfalso;simp_all;done)
