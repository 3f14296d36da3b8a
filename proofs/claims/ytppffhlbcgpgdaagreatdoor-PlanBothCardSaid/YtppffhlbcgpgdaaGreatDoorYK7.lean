/- Lemmas toward the law; each names its conditions. -/
import Derived.Test.YtppffhlbcgpgdaaGreatDoorYK6
import Derived.Test.YtppffhlbcgpgdaaGreatDoorYK3
set_option linter.all false
set_option maxRecDepth 100000
set_option maxHeartbeats 8000000
namespace Go.Proofs.YtppffhlbcgpgdaaGreatDoor
open Go.Am
attribute [local irreducible] Decidable.decide
def Ju {α:Type} (f:α->Int) (l:List α):Prop:=l.Pairwise (λx y=>f x<f y)
def I8 {α:Type} (f:α->Int) (x:α) (l:List α):List α:=l.filter (λy=>decide (f y<f x))++x::l.filter (λy=>decide (f x<f y))
theorem GO {α:Type} {f:α->Int} {l:List α}:Ju f l↔(l.map f).Pairwise (· < ·):=by rw[A74];rfl
theorem Ade {α:Type} {f:α->Int}: ∀{l m:List α},Ju f l->Ju f m->(∀x,x∈l↔x∈m)->l=m
 |[],[],_,_,_=>rfl
 |[],y::m,_,_,h=>by have:=(h y).2 Ac;simp at this
 |x::l,[],_,_,h=>by have:=(h x).1 Ac;simp at this
 |x::l,y::m,hl,hm,h=>by
  have cX:=A2x.1 hl;have fN:=A2x.1 hm
  have e:x=y:=by
   have h1:=(h x).1 Ac;have h2:=(h y).2 Ac;rcases Als.1 h1 with e|h1
   ·exact e
   rcases Als.1 h2 with e|h2
   ·exact e.symm
   have:=cX.1 y h2;have:=fN.1 x h1;omega
  subst e;congr 1
  refine Ade cX.2 fN.2 λz=>⟨λhz=>?_,λhz=>?_⟩
  ·have aC:=cX.1 z hz;rcases Als.1 ((h z).1 (by simp[hz]))with e|h1
   ·subst e;omega
   ·exact h1
  ·have aC:=fN.1 z hz;rcases Als.1 ((h z).2 (by simp[hz]))with e|h1
   ·subst e;omega
   ·exact h1
theorem Adc {α:Type} {f:α->Int}: ∀{l:List α},Ju f l-> ∀{x y:α},x∈l->y∈l->f x=f y->x=y
 |z::l,h,x,y,hx,hy,e=>by
  have h':=A2x.1 h;rcases Als.1 hx with e1|h1<;>rcases Als.1 hy with e2|h2
  ·rw[e1,e2]
  ·subst e1;have:=h'.1 y h2;omega
  ·subst e2;have:=h'.1 x h1;omega
  ·exact Adc h'.2 h1 h2 e
theorem YC {α:Type} {f:α->Int} {l:List α} (h:Ju f l) {k:Int} {x:α} (hx:x∈l) (hk:f x=k):l.find? (λy=>decide (f y=k))=some x:=by
 cases hf:l.find? (λy=>decide (f y=k))with
 |none=>have:=A5i.1 hf x hx;simp[hk]at this
 |some y=>
  have h1:=A6d hf;have h2:=A40 hf;rw[Adc h h2 hx (by simpa[hk]using h1)]
theorem Ard {α:Type} {f:α->Int} {l:List α} {k:Int} (h: ∀x∈l,f x≠k):l.find? (λy=>decide (f y=k))=none:=by
 rw[A5i];intro x hx;simpa using h x hx
theorem I2 {α:Type} {f:α->Int} {x z:α} {l:List α}:z∈I8 f x l↔z=x\/(z∈l/\f z≠f x):=by
 simp only[I8,A25,Als,A6c,Uj];constructor
 ·rintro(⟨h1,h2⟩|rfl|⟨h1,h2⟩)
  ·exact .inr ⟨h1,Aa⟩
  ·exact .inl Y
  ·exact .inr ⟨h1,Aa⟩
 ·rintro(rfl|⟨h1,h2⟩)
  ·exact .inr (.inl Y)
  ·rcases Int.lt_or_gt_of_ne h2 with h3|h3
   ·exact .inl ⟨h1,h3⟩
   ·exact .inr (.inr ⟨h1,h3⟩)
theorem Nz {α:Type} {f:α->Int} {x:α} {l:List α} (h:Ju f l):Ju f (I8 f x l):=by
 unfold I8 Ju;rw[A22,A2x];refine⟨h.filter _,⟨λy hy=>by simpa using(A6c.1 hy).2,h.filter _⟩,λa ha b hb=>?_⟩;have h1:f a<f x:=by simpa using(A6c.1 ha).2
 rcases Als.1 hb with rfl|hb
 ·exact h1
 ·have h2:f x<f b:=by simpa using(A6c.1 hb).2
  omega
theorem US {α:Type} {f:α->Int} {x:α} {l:List α} (h:Ju f l) (k:Int):(I8 f x l).find? (λy=>decide (f y=k))=if f x=k then some x else l.find? (λy=>decide (f y=k)):=by
 have hs:=Nz (x:=x) h;split
 ·rename_i e;exact YC hs (I2.2 (.inl Y)) e
 ·rename_i e
  cases hf:l.find? (λy=>decide (f y=k))with
  |none=>
   refine Ard λz hz=>?_;rcases I2.1 hz with rfl|⟨h1,h2⟩
   ·exact e
   ·have:=A5i.1 hf z h1;simpa using this
  |some y=>
   have h1:f y=k:=by simpa using A6d hf
   exact YC hs (I2.2 (.inr ⟨A40 hf,Aa⟩)) h1
theorem Ky {α:Type} {f:α->Int} {k:Int} {a b:List α} (ha: ∀x∈a,f x<k) (hb: ∀x∈b,k<=f x):(a++b).filter (λy=>decide (f y<k))=a/\(a++b).filter (λy=>decide (k<f y))=b.filter (λy=>decide (k<f y)):=by
 constructor
 ·rw[List.filter_append,A6z.2 (λx hx=>by simpa using ha x hx),A77.2 (λx hx=>by have:=hb x hx;simp;omega),A5u]
 ·rw[List.filter_append,A77.2 (λx hx=>by have:=ha x hx;simp;omega),A6w]
theorem Ao8 {α:Type} {f:α->Int} {l:List α} {k:Int} {i:Nat} (h:l.findIdx? (λy=>decide (f y>=k))=some i):(∀y∈l.take i,f y<k)/\ ∃x,l[i]?=some x/\k<=f x:=by
 obtain⟨aC,h1,h2⟩:=A6o.1 h;refine⟨λy hy=>?_,l[i],Kv aC,by simpa using h1⟩;obtain⟨j,hj,rfl⟩:=A51.1 hy;have:=h2 j Aa;simp at this;omega
theorem N2 {l:List Prod} (h:Ju Prod.lO l) (p:Prod):O8 l p=I8 Prod.lO p l:=by
 unfold O8
 cases hf:l.findIdx? (λx=>decide (x.lO>=p.lO))with
 |none=>
  have hn: ∀x∈l,x.lO<p.lO:=λx hx=>by have:=A5e.1 hf x hx;simp at this;omega
  simp only[Tw,A5o,List.drop_length,I8];rw[A6z.2 (λx hx=>by simpa using hn x hx),A77.2 (λx hx=>by have:=hn x hx;simp;omega)]
 |some i=>
  obtain⟨h1,x,hx,h2⟩:=Ao8 hf;have hd:=CL hx;have eU:l=l.take i++l.drop i:=(A5j i l).symm;have eD:Ju Prod.lO (x::l.drop (i+1)):=by rw[<-hd];exact A8f (List.drop_sublist i l) h
  have d6:=(A2x.1 eD).1
  have hb: ∀y∈l.drop i,p.lO<=y.lO:=λy hy=>by
   rw[hd]at hy;rcases Als.1 hy with rfl|hy
   ·exact h2
   ·have:=d6 y hy;omega
  obtain⟨q1,q2⟩:=Ky (f:=Prod.lO) h1 hb;rw[<-eU]at q1 q2;have aI:(l.drop (i+1)).filter (λy=>decide (p.lO<y.lO))=l.drop (i+1):=A6z.2 λy hy=>by have:=d6 y hy;simp;omega
  simp only[hx,A4g,A26,Tw,I8];rw[q1,q2,hd,A8c,aI];by_cases e:x.lO=p.lO
  ·have: ¬p.lO<x.lO:=Aa;simp[e]
  ·have:p.lO<x.lO:=Aa;simp[e,this]
theorem PT: ∀{l:List Prod} {n:Int},HT n l=true↔(∀p∈l,n<p.lO)/\Ju Prod.lO l/\ ∀p∈l,CW p=true
 |[],n=>by simp[HT,Ju]
 |p::r,n=>by
  simp only[HT,Qp,Uj,PT (l:=r),Als,Ju,A2x];constructor
  ·rintro⟨⟨h1,h2⟩,h3,h4,h5⟩;exact⟨λq hq=>hq.elim (λe=>e▸h1) (λhq=>by have:=h3 q hq;omega),⟨h3,h4⟩,λq hq=>hq.elim (λe=>e▸h2) (h5 q)⟩
  ·rintro⟨h1,⟨h3,h4⟩,h5⟩;exact⟨⟨h1 p (.inl Y),h5 p (.inl Y)⟩,h3,h4,λq hq=>h5 q (.inr hq)⟩
theorem HV {p:Prod} (h:CW p=true):Dt p:=by simp only[CW,Qp,Uj]at h;exact h.1
theorem EG {l:List Prod}:EN l=true↔Ju Prod.lO l/\ ∀p∈l,CW p=true:=by
 unfold EN;rw[PT];exact⟨λh=>h.2,λh=>⟨λp hp=>by have:=HV (h.2 p hp);unfold Dt at this;omega,h⟩⟩
theorem UA {l:List Prod} {p:Prod} (h:EN l=true) (hp:CW p=true):EN (O8 l p)=true:=by
 obtain⟨h1,h2⟩:=EG.1 h;rw[N2 h1];refine EG.2 ⟨Nz h1,λq hq=>?_⟩;rcases I2.1 hq with rfl|⟨h3,_⟩
 ·exact hp
 ·exact h2 q h3
theorem OZ {l:List Prod} {p:Prod} (h:EN l=true) (k:Int):BK (O8 l p) k=if p.lO=k then p else BK l k:=by
 unfold BK;rw[N2 (EG.1 h).1,US (EG.1 h).1];split<;>rfl
theorem LY {l:List Prod} {k:Int}:H6 l k=(l.find? (λp=>decide (p.lO=k))).isSome:=by
 unfold H6;rw[A5f,List.find?_isSome,A6s]
theorem S4 {l:List Prod} {p:Prod} (h:EN l=true) (k:Int):H6 (O8 l p) k=(decide (p.lO=k)||H6 l k):=by
 rw[LY,LY,N2 (EG.1 h).1,US (EG.1 h).1];split<;>simp[*]
theorem S5 {l:List Prod} {k:Int} (h:H6 l k=true):BK l k∈l/\(BK l k).lO=k:=by
 rw[LY]at h;obtain⟨x,hx⟩:=A56.1 h;have h1:BK l k=x:=by simp[BK,hx]
 rw[h1];exact⟨A40 hx,by simpa using A6d hx⟩
theorem Al3 {l:List Prod} {k:Int} (h:H6 l k=false):BK l k=EB:=by
 rw[LY]at h;have:l.find? (λp=>decide (p.lO=k))=none:=by simpa using h
 simp[BK,this]
theorem Zn {s:Seen} {n:Int}: ∀{r:List Seen},Fg n (r++[s])=Fg s.seq r
 |[]=>rfl
 |_::_=>rfl
theorem SR {s:Seen} {n:Int} (hs:EY s) (hn:n=s.seq+s.count): ∀{l:List Seen},BQ s.seq l=true->BQ n (l++[s])=true
 |[],_=>by simp[BQ,Fg,hs,hn]
 |a::r,h=>by
  simp only[BQ,Qp,Uj,A5n]at h⊢;exact⟨by rw[Zn];exact h.1,SR hs hn h.2⟩
theorem Zi {n:Int} {l:List Seen} (k:Nat) (h:BQ n l=true):BQ n (l.drop k)=true:=by
 cases hc:BQ n (l.drop k)with
 |true=>rfl
 |false=>rw[K5 hc]at h;cases h
theorem Apf {b:Batch} (hb:A4 b=true) {s6:Int} (h: -1<=s6/\s6<=1048576):EY ⟨b.seq,b.rZ.length,s6⟩:=by
 have:=BV hb;unfold EY;simp only;omega
theorem Nd {b:Batch} (hb:A4 b=true):E5 b:=by simp only[A4,Qp,Uj]at hb;exact hb.1
theorem As7 {l:List Prod} {b:Batch} (hl:EN l=true) (hb:A4 b=true):C6 l b=GJ l b/\Ff l b=Mw l b:=by
 simp[C6,Ff,SP,hl,hb]
theorem Abg {l:List Prod} {b:Batch} (hl:EN l=true) (hb:A4 b=true) (hc:C6 l b=0) (hi:Ff l b=false):BQ b.seq (NW l b)=true:=by
 obtain⟨h1,h2⟩:=As7 hl hb;rw[h1]at hc;rw[h2]at hi;unfold NW;split
 ·rfl
 ·rename_i he;have he:(BK l b.lO).lT=b.lT:=A34.1 he
  cases hh:H6 l b.lO with
  |false=>rw[Al3 hh];rfl
  |true=>
   obtain⟨h3,_⟩:=S5 hh;have hk:=(EG.1 hl).2 _ h3;have jK:K1 l b=BK l b.lO:=by simp[K1,hh,he]
   have hf:Gx l b=false:=by simp[Gx,hh,he]
   have ha:(K1 l b).s9.any (KC b)=false:=by simpa[Mw,hf]using hi
   have hn:b.seq=(K1 l b).next:=by
    unfold GJ at hc;rw[hf,ha]at hc;simp at hc;exact hc
   rw[jK]at hn;simp only[CW,Qp]at hk;rw[hn];exact hk.2
theorem Yo {l:List Prod} {b:Batch} {s6:Int} (hl:EN l=true) (hb:A4 b=true) (hc:C6 l b=0) (hi:Ff l b=false) (fY: -1<=s6/\s6<=1048576):CW (Gh l b s6)=true:=by
 have hm:=BV hb;have jB:=Nd hb;unfold E5 at jB;have aO:(Gh l b s6).s9.length<=3:=by simp only[Gh,Z9,A43];omega
 have kN:Dt (Gh l b s6):=by
  refine⟨jB.1,jB.2.1,jB.2.2.1,jB.2.2.2.1,?_,?_,Aa⟩<;>simp only[Gh,E6]<;>omega
 have PZ:BQ (E6 b) (Z9 (NW l b++[⟨b.seq,b.rZ.length,s6⟩]))=true:=
  Zi _ (SR (Apf hb fY) Y (Abg hl hb hc hi))
 simp only[CW,kN,A69,A5a];exact PZ
theorem Nt {l:List Prod} {b:Batch} {s6:Int} (hc:C6 l b=0) (hi:Ff l b=false) (fY: -1<=s6/\s6<=1048576):HB l b s6=0:=by
 unfold HB;rw[Ug Aa,Ug Aa,hi];simp
theorem Rn {l:List Prod} {b:Batch} {s6:Int} (hc:C6 l b=0) (hi:Ff l b=false) (fY: -1<=s6/\s6<=1048576):G2 l b s6=O8 l (Gh l b s6):=by
 unfold G2;rw[Nt hc hi fY];simp
theorem PM {l:List Prod} {b:Batch} {s6:Int} (hl:EN l=true) (hb:A4 b=true) (hc:C6 l b=0) (hi:Ff l b=false) (fY: -1<=s6/\s6<=1048576):EN (G2 l b s6)=true:=by
 rw[Rn hc hi fY];exact UA hl (Yo hl hb hc hi fY)
def EH (p:Part) (b:Batch):Part:={p with fin:=p.fin+b.rZ.length,rows:=p.rows++CA b p.fin,rA:=G2 p.rA b p.fin}
def H5 (l:List Opn) (b:Batch):Opn:=match l.find? (λo=>decide (o.lO=b.lO))with
 |some o=>{o with gG:=o.gG++[b]}
 |none=>⟨b.lO,b.lT,[b]⟩
def O3 (p:Part) (b:Batch):Part:={p with kI:=I8 Opn.lO (H5 p.kI b) p.kI,rA:=G2 p.rA b (-1)}
def EW:Part:=⟨0,0,[],[],[]⟩
theorem Kj {l:List Opn} {b:Batch}:(H5 l b).lO=b.lO:=by
 unfold H5;split
 ·rename_i o h;simpa using A6d h
 ·rfl
def Th (ps:List Prod) (o:Opn):Prop:=Cp o=true/\H6 ps o.lO=true/\(BK ps o.lO).lT=o.lT/\(BK ps o.lO).next=Gr o.gG
structure POk (p:Part):Prop where
 b0:0<=p.vR
 b1:p.vR<=p.fin
 b2:p.fin<=1048576
 srt:Ju Row.offset p.rows
 rin: ∀r∈p.rows,p.vR<=r.offset/\r.offset<p.fin
 vY:Ju Opn.lO p.kI
 rok: ∀r∈p.rows,JX r=false
 vW:EN p.rA=true
 ook: ∀o∈p.kI,Th p.rA o
theorem CM {o:Opn} (h:Cp o=true):1<=o.gG.length/\o.gG.length<=8:=by
 simp only[Cp,Qp,Uj]at h;exact h.1
theorem Ez {p:Part}:BU p=true↔POk p:=by
 simp only[BU,HW,EU,Qp,Uj,A5y,FW,A21,A4u,FN,Xu];constructor
 ·rintro⟨⟨⟨⟨h0,h1,h2⟩,h3,h4,h5,h6⟩,h7,h8⟩,h9⟩;exact⟨h0,h1,h2,GO.2 h3,h4,GO.2 h5,λr hr=>by simpa using h7 r hr,h8,λo ho=>h9 o ho⟩
 ·rintro⟨h0,h1,h2,h3,h4,h5,h7,h8,h9⟩;refine⟨⟨⟨⟨h0,h1,h2⟩,GO.1 h3,h4,GO.1 h5,λo ho=>?_⟩,λr hr=>by simpa using h7 r hr,h8⟩,λo ho=>h9 o ho⟩;have:=(CM (h9 o ho).1).1;intro he;rw[List.isEmpty_iff]at he;simp[he]at this
theorem N6 {b:Batch} {off:Int} {r:Row} (h:r∈CA b off): ∃(i:Nat) (x:Rec),b.rZ[i]?=some x/\r=IX b off i x:=by
 obtain⟨i,hi,rfl⟩:=A8m.1 h;simp only[CA,List.length_mapIdx]at hi;exact⟨i,b.rZ[i],Kv hi,by simp[CA]⟩
theorem Ajz {b:Batch} {off:Int}:(CA b off).length=b.rZ.length:=by simp[CA]
theorem Xt {b:Batch} {off:Int} (h:0<=off):Ju Row.offset (CA b off):=by
 unfold Ju;rw[A52];intro i j hi hj kD
 have h1: ∀k (hk:k<(CA b off).length),((CA b off)[k]'hk).offset=off+k:=λk hk=>by
  simp only[CA,List.getElem_mapIdx,IX];rw[Ug Aa]
 rw[h1 i hi,h1 j hj];omega
theorem Adj {b:Batch} (hb:A4 b=true) {off:Int} {r:Row} (h:r∈CA b off):JX r=false:=by
 obtain⟨i,x,hx,rfl⟩:=N6 h;have hm:=BV hb;have jB:=Nd hb;unfold E5 at jB;have aC:=(ZH.1 hx).1
 have hr:NJ x=true:=by
  simp only[A4,Qp]at hb;exact A21.1 hb.2 x (Apj hx)
 simp only[NJ,Qp,Uj]at hr;simp only[JX,IX];refine A44 ?_;omega
theorem Afs {p:Part} {b:Batch} (h:KI p b=none):(∀o∈p.kI,o.lO≠b.lO)\/b.vV=true:=by
 unfold KI at h
 cases hf:p.kI.find? (λo=>decide (o.lO=b.lO))with
 |none=>exact .inl λo ho=>by simpa using A5i.1 hf o ho
 |some o=>
  rw[hf]at h;simp only at h
  cases ht:b.vV with
  |true=>exact .inr Y
  |false=>rw[ht]at h;simp at h
theorem X5 {p:Part} {b:Batch} (h:KI p b=none) {o:Opn} (hf:p.kI.find? (λo=>decide (o.lO=b.lO))=some o):b.vV=true/\o.lT=b.lT/\o.gG.length<8:=by
 unfold KI at h;rw[hf]at h;simp only at h
 cases ht:b.vV with
 |false=>rw[ht]at h;simp at h
 |true=>
  rw[ht]at h;refine⟨Y,?_,?_⟩
  ·rcases Decidable.em (o.lT=b.lT)with e|e
   ·exact e
   ·simp[e]at h
  ·rcases A4i o.gG.length 8 with e|e
   ·exact e
   ·simp[e]at h;split at h<;>cases h
theorem LJ {p:Part} {b:Batch} (h:HD p b=.nilIface):KI p b=none/\Amz p b<=1048576:=by
 unfold HD at h
 cases hr:KI p b with
 |some x=>rw[hr]at h;simp[Co]at h
 |none=>
  rw[hr]at h;simp only at h;split at h
  ·simp[Co]at h
  ·exact⟨Y,Aa⟩
theorem Aki {p:Part} {b:Batch} (h:POk p) (hb:A4 b=true) (hc:C6 p.rA b=0) (hi:Ff p.rA b=false) (ht:b.vV=false) (hr:HD p b=.nilIface):POk (EH p b):=by
 obtain⟨fT,lX⟩:=LJ hr;have cH: ∀o∈p.kI,o.lO≠b.lO:=(Afs fT).elim id λe=>by rw[ht]at e;cases e
 have h0:=h.b0;have h1:=h.b1;have h2:=h.b2;unfold Amz at lX;have dR:=Rn hc hi (s6:=p.fin) ⟨Aa,h2⟩;refine⟨h0,by simp only[EH];omega,by simp only[EH];omega,?_,λr hr=>?_,h.vY,λr hr=>?_,PM h.vW hb hc hi ⟨Aa,h2⟩,λo ho=>?_⟩
 ·simp only[EH,Ju];rw[A22];refine⟨h.srt,Xt Aa,λx hx y hy=>?_⟩;have:=(h.rin x hx).2;obtain⟨i,z,hz,rfl⟩:=N6 hy;simp only[IX];rw[Ug Aa];omega
 ·simp only[EH]at hr⊢;rcases A25.1 hr with hr|hr
  ·have:=h.rin r hr;omega
  ·obtain⟨i,z,hz,rfl⟩:=N6 hr;have aC:=(ZH.1 hz).1;simp only[IX];rw[Ug Aa];omega
 ·simp only[EH]at hr;rcases A25.1 hr with hr|hr
  ·exact h.rok r hr
  ·exact Adj hb hr
 ·simp only[EH]at ho⊢;have d7:=h.ook o ho;have aE:=cH o ho;unfold Th at d7⊢;rw[dR,OZ h.vW,S4 h.vW];have e: ¬(Gh p.rA b p.fin).lO=o.lO:=λe=>aE e.symm;simp only[e,A64,Bool.false_or,ZF];exact d7
theorem Su {b:Batch}: ∀{l:List Batch},Gr (l++[b])=E6 b
 |[]=>rfl
 |[a]=>rfl
 |a::c::r=>by
  have:=Su (b:=b) (l:=c::r)
  simpa[Gr]using this
theorem L5 {lO ep:Int} {b:Batch} (hb:A4 b=true) (ht:b.vV=true) (hp:b.lO=lO) (he:b.lT=ep): ∀{l:List Batch} {n:Int},Cu lO ep n l=true->l≠[]->b.seq=Gr l->Cu lO ep n (l++[b])=true
 |[],_,_,h,_=>absurd Y h
 |[a],n,h,_,hs=>by
  simp only[Cu,Qp,A5n,A6w]at h⊢;exact⟨h.1,by simp[hb,ht,hp,he,hs,Gr]⟩
 |a::c::r,n,h,_,hs=>by
  simp only[Cu,Qp,A5n]at h⊢;refine⟨h.1,?_⟩;have:=L5 hb ht hp he (l:=c::r) (n:=E6 a) (by simp only[Cu,Qp];exact h.2) Ac (by simpa[Gr]using hs)
  simpa[Cu]using this
theorem T5 {b:Batch} {l:List Batch} (h:l≠[]):JC (l++[b])=JC l:=by
 cases l with
 |nil=>exact absurd Y h
 |cons a r=>rfl
theorem Ar3 {l:List Prod} {b:Batch} (hl:EN l=true) (hb:A4 b=true) (hc:C6 l b=0) (hi:Ff l b=false) (hh:H6 l b.lO=true) (he:(BK l b.lO).lT=b.lT):b.seq=(BK l b.lO).next:=by
 obtain⟨h1,h2⟩:=As7 hl hb;rw[h1]at hc;rw[h2]at hi;have jK:K1 l b=BK l b.lO:=by simp[K1,hh,he]
 have hf:Gx l b=false:=by simp[Gx,hh,he]
 have ha:(K1 l b).s9.any (KC b)=false:=by simpa[Mw,hf]using hi
 unfold GJ at hc;rw[hf,ha]at hc;simp at hc;rw[jK]at hc;exact hc
theorem Agv {p:Part} {b:Batch} (h:POk p) (hb:A4 b=true) (hc:C6 p.rA b=0) (hi:Ff p.rA b=false) (ht:b.vV=true) (hr:KI p b=none):Cp (H5 p.kI b)=true/\(H5 p.kI b).lT=b.lT/\Gr (H5 p.kI b).gG=E6 b:=by
 unfold H5
 cases hf:p.kI.find? (λo=>decide (o.lO=b.lO))with
 |none=>
  refine⟨?_,Y,Y⟩;simp[Cp,Cu,JC,hb,ht]
 |some o=>
  obtain⟨_,he,hn⟩:=X5 hr hf;have ho:=h.ook o (A40 hf);have dG:o.lO=b.lO:=by simpa using A6d hf
  unfold Th at ho;rw[dG]at ho;obtain⟨h1,h2,h3,h4⟩:=ho;have hs:=Ar3 h.vW hb hc hi h2 (by rw[h3,he]);refine⟨?_,he,Su⟩;have aO:=CM h1;have aE:o.gG≠[]:=λe=>by rw[e]at aO;simp at aO
  simp only[Cp,Qp,Uj,Xp,A2z,A46,T5 aE]at h1⊢;exact⟨Aa,L5 hb ht dG.symm he.symm h1.2 aE (by rw[hs,h4])⟩
theorem Att {p:Part} {b:Batch} (h:POk p) (hb:A4 b=true) (hc:C6 p.rA b=0) (hi:Ff p.rA b=false) (ht:b.vV=true) (hr:HD p b=.nilIface):POk (O3 p b):=by
 obtain⟨fT,lX⟩:=LJ hr;obtain⟨k1,k2,k3⟩:=Agv h hb hc hi ht fT;have dR:=Rn hc hi (s6:= -1) ⟨Aa,Aa⟩;refine⟨h.b0,h.b1,h.b2,h.srt,h.rin,Nz h.vY,h.rok,PM h.vW hb hc hi ⟨Aa,Aa⟩,λo ho=>?_⟩;simp only[O3]at ho⊢;unfold Th;rw[dR,OZ h.vW,S4 h.vW];rcases I2.1 ho with rfl|⟨ho,aE⟩
 ·have e:(Gh p.rA b (-1)).lO=(H5 p.kI b).lO:=Kj.symm;simp only[e,A69,Bool.true_or,Xs];exact⟨k1,trivial,k2.symm,k3.symm⟩
 ·have e: ¬(Gh p.rA b (-1)).lO=o.lO:=λe=>aE (by rw[Kj];exact e.symm);simp only[e,A64,Bool.false_or,ZF];exact h.ook o ho
def DW (p:Part) (lO:Int):Bool:=p.kI.any λo=>decide (o.lO=lO)
def BF (i:Image) (lO:Int):List Int:=(if DW i.p0 lO=true then[0]else[])++((if DW i.p1 lO=true then[1]else[])++(if DW i.p2 lO=true then[2]else[]))
def Ei (m:MState) (o:Opn):Bool:=
 match QH m o.lO with
 |some t=>decide ((Aj m t).lT=o.lT)
 |none=>false
def RX (i:Image):Bool:=
 (decide (i.m.t0.parts=BF i i.m.t0.lO)&&(decide (i.m.t1.parts=BF i i.m.t1.lO)&&decide (i.m.t2.parts=BF i i.m.t2.lO)))
  &&(i.p0.kI.all (Ei i.m)&&(i.p1.kI.all (Ei i.m)&&i.p2.kI.all (Ei i.m)))
def GK (i:Image):Bool:=decide (i.vQ=0\/i.vQ=1)&&(Bv i.m&&((BU i.p0&&(BU i.p1&&BU i.p2))&&RX i))
def A5 (i:Image) (q:Int):Part:=if q=0 then i.p0 else if q=1 then i.p1 else i.p2
def CP (i:Image) (q:Int) (p:Part):Image:=if q=0 then{i with p0:=p}else if q=1 then{i with p1:=p}else{i with p2:=p}
def Al1:Image:=⟨0,EW,EW,EW,NO⟩
end Go.Proofs.YtppffhlbcgpgdaaGreatDoor
namespace Go.Proofs.YtppffhlbcgpgdaaGreatDoor
open Go.Am
attribute [local irreducible] Decidable.decide Tr A6 CG EJ
def HO (s:MState) (t:Int):Bool:=if t=0 then BD s.t0&&decide (s.t0.lO<=s.vP)else if t=1 then(BD s.t1&&decide (s.t1.lO<=s.vP))&&FQ s.t1 s.t0 else(BD s.t2&&decide (s.t2.lO<=s.vP))&&(FQ s.t2 s.t0&&FQ s.t2 s.t1)
def Rl (s:MState):Bool:=HE s.g00&&(HE s.g01&&(HE s.g02&&(HE s.g10&&(HE s.g11&&HE s.g12))))
theorem Sj (s:MState):Bv s=(decide (0<=s.vP/\s.vP<=8)&&((HO s 0&&(HO s 1&&HO s 2))&&Rl s)):=by
 unfold Bv HO Rl;simp only[Int.reduceEq,Xs,ZF]
 ac_rfl
theorem Aa2 {s:MState} {t:Int} (ht:t=0\/t=1\/t=2) (h:HO s t=false):Bv s=false:=by
 rw[Sj];rcases ht with rfl|rfl|rfl<;>simp[h]
theorem DK (s:MState) (h0:SmallC s.t0) (h1:SmallC s.t1) (h2:SmallC s.t2):A3z 36 [.agg (Af (Az s))] [] (.t (.bool (Bv s))) []:=by
 have c0:=KU s.t0 h0;have c1:=KU s.t1 h1;have c2:=KU s.t2 h2;have e0:HO s 0=(BD s.t0&&decide (s.t0.lO<=s.vP)):=rfl;have e1:HO s 1=((BD s.t1&&decide (s.t1.lO<=s.vP))&&FQ s.t1 s.t0):=rfl;have e2:HO s 2=((BD s.t2&&decide (s.t2.lO<=s.vP))&&(FQ s.t2 s.t0&&FQ s.t2 s.t1)):=rfl;unfold FQ at e1 e2;generalize BD s.t0=M0 at c0 e0;generalize BD s.t1=M1 at c1 e1;generalize BD s.t2=M2 at c2 e2;have dO:IntKind.i64.wrap (0+1)=1:=by decide+kernel
 have dD:IntKind.i64.wrap (1+1)=2:=by decide+kernel
 have dZ:IntKind.i64.wrap (2+1)=3:=by decide+kernel
 have mF:List.take 0 (CH Vy.size 3 (List.take (3*Vy.size) (List.drop 1 (Az s))))=[]:=rfl;have oF:List.take 1 (CH Vy.size 3 (List.take (3*Vy.size) (List.drop 1 (Az s))))=[AN s.t0]:=rfl;have iG:List.take 2 (CH Vy.size 3 (List.take (3*Vy.size) (List.drop 1 (Az s))))=[AN s.t0,AN s.t1]:=rfl;refine yF Tryz.func36 ?_;refine HA ?_;refine Jx Ai Y Y ?_
 repeat'(first|exact Au|refine yA ?_ ?_|refine⟨λh=>?_⟩|fail)
 refine A3q (cs:=Az s) 1 2 Y Y Y Y ?_;by_cases n9:0<=s.vP/\s.vP<=8
 case neg=>
  have e:Bv s=false:=by rw[Sj,A44 n9,Bool.false_and]
  rw[e]
  repeat'(first|exact Au|refine yC ?_ ?_|refine⟨λh=>?_⟩|fail)
  all_goals first
   |exact Ah Y (A3m Y)
   |(exfalso;omega)
 repeat'(first|exact Au|refine yC ?_ ?_|refine⟨λh=>?_⟩|fail)
 all_goals try(exfalso;omega)
 refine AW (ι:=Int) (λt=>(t=0\/t=1\/t=2\/t=3)/\ ∀j,0<=j->j<t->HO s j=true) (λt=>[(1,.t (.ptr (Az s))),(20,.agg (Af (AN s.t0++(AN s.t1++AN s.t2)))),(21,.t (.int .i64 t))]) (λ_=>[]) (λt=>(3-t).toNat) 0 ⟨.inl Y,λj _ _=>Aa⟩ ?_ ?_
 ·exact Bb [] Aa6 Y
 rintro t ⟨ht,bA⟩;rcases ht with rfl|rfl|rfl|rfl
 ·repeat'(first|exact Au|refine yC ?_ ?_|refine⟨λh=>?_⟩|refine QZ Ai Y Y Y Y Y Y (A6g Y) (A83 _) Y (A6g Y) Y ?_|refine B6 5 ?_|refine BH ?_|rw[dO]|rw[dD]|rw[dZ]|rw[mF]|rw[oF]|rw[iG]|refine HM (kc:=0) Ai Y Y Y Y Y Y Y Y Y ?_|refine HM (kc:=1) Ai Y Y Y Y Y Y Y Y Y ?_|fail)
  all_goals first
   |(exfalso;(first|rw[dO]at h|rw[dD]at h|skip);(first|rw[mF]at h|rw[oF]at h|rw[iG]at h|skip);simp at h;done)
   |(refine Ah Y (A3m ?_);rw[Aa2 (s:=s) (t:=0) Ac (by rw[e0];first|(simp_all;done)|(simp_all;omega))];done)
   |(refine AM 1 ⟨Ac,λj h1 h2=>?_⟩ Ae [4,6] (Ag Y Y (Ag Y Y (Ag Y (by first|rfl|rw[dO]) A8))) Y
     by_cases e:j=0
     ·subst e;rw[e0];simp_all;try omega
     ·exact bA j h1 Aa)
 ·repeat'(first|exact Au|refine yC ?_ ?_|refine⟨λh=>?_⟩|refine QZ Ai Y Y Y Y Y Y (A6g Y) (A83 _) Y (A6g Y) Y ?_|refine B6 5 ?_|refine BH ?_|rw[dO]|rw[dD]|rw[dZ]|rw[mF]|rw[oF]|rw[iG]|refine HM (kc:=0) Ai Y Y Y Y Y Y Y Y Y ?_|refine HM (kc:=1) Ai Y Y Y Y Y Y Y Y Y ?_|fail)
  all_goals first
   |(exfalso;(first|rw[dO]at h|rw[dD]at h|skip);(first|rw[mF]at h|rw[oF]at h|rw[iG]at h|skip);simp at h;done)
   |(refine Ah Y (A3m ?_);rw[Aa2 (s:=s) (t:=1) Ac (by rw[e1];first|(simp_all;done)|(simp_all;omega))];done)
   |(refine AM 2 ⟨Ac,λj h1 h2=>?_⟩ Ae [4,6] (Ag Y Y (Ag Y Y (Ag Y (by first|rfl|rw[dD]) A8))) Y
     by_cases e:j=1
     ·subst e;rw[e1];simp_all;try omega
     ·exact bA j h1 Aa)
 ·repeat'(first|exact Au|refine yC ?_ ?_|refine⟨λh=>?_⟩|refine QZ Ai Y Y Y Y Y Y (A6g Y) (A83 _) Y (A6g Y) Y ?_|refine B6 5 ?_|refine BH ?_|rw[dO]|rw[dD]|rw[dZ]|rw[mF]|rw[oF]|rw[iG]|refine HM (kc:=0) Ai Y Y Y Y Y Y Y Y Y ?_|refine HM (kc:=1) Ai Y Y Y Y Y Y Y Y Y ?_|fail)
  all_goals first
   |(exfalso;(first|rw[dO]at h|rw[dD]at h|skip);(first|rw[mF]at h|rw[oF]at h|rw[iG]at h|skip);simp at h;done)
   |(refine Ah Y (A3m ?_);rw[Aa2 (s:=s) (t:=2) Ac (by rw[e2];first|(simp_all;done)|(simp_all;omega))];done)
   |(refine AM 3 ⟨Ac,λj h1 h2=>?_⟩ Ae [4,6] (Ag Y Y (Ag Y Y (Ag Y (by first|rfl|rw[dZ]) A8))) Y
     by_cases e:j=2
     ·subst e;rw[e2];simp_all;try omega
     ·exact bA j h1 Aa)
 ·have q0:=bA 0 Aa Aa;have q1:=bA 1 Aa Aa;have q2:=bA 2 Aa Aa;rw[Sj,A32 n9,q0,q1,q2];simp only[A5a];unfold Rl HE;clear e0 e1 e2 c0 c1 c2 bA q0 q1 q2
  repeat'(first|exact Au|refine yC ?_ ?_|refine⟨λh=>?_⟩|refine B6 5 ?_|refine BH ?_|rw[dO]|rw[dD]|rw[dZ]|fail)
  all_goals first
   |(exfalso;omega)
   |(refine Ah Y (BL ?_);simp_all;done)
   |(refine Ah Y (BL ?_);simp_all;omega)
def e3 (mY:Int) (oC:Bool) (sA:Int):MEntry:={D9 3 with mY:=mY,oC:=oC,sA:=sA}
def e4 (mY:Int):MEntry:={D9 4 with mY:=mY}
theorem JV:SmallC BX:=⟨by simp[BX],by simp[BX]⟩
theorem J8 (e:MEntry) (hc:SmallC e.c):A3z 210 [.agg (Af (Al e)),.agg (Af (Al e))] [] (.t (.bool true)) []:=by
 have cs:=Ud e.c e.c hc;rw[A32 Y]at cs;refine yF Tryz.func210 ?_
 repeat'(first|exact Au|refine yC ?_ ?_|refine⟨λh=>?_⟩|fail)
 all_goals first
  |(exfalso;simp_all;done)
  |exact Ah Y (BL (by simp_all))
def X7 (k mY:Int) (oC:Bool) (sA:Int):List T:=[.int .i8 k,.int .i64 mY,.int .i64 0,.int .i64 0,.int .i64 0,.int .i64 0,.bool oC,.int .i64 sA,.int .i8 0,.int .i64 0,.int .i64 0,.int .i64 0,.int .i64 0,.slice .nil 0 [],.slice .nil 0 [],.int .i64 0,.int .i64 0]
theorem X9 (mY:Int) (oC:Bool) (sA:Int):Aq (.agg (Af (X7 3 mY oC sA))) (.agg (Af (Al (e3 mY oC sA)))):=AC (show Fv _ _ from⟨A3l _,A3l _,A3l _,A3l _,A3l _,A3l _,A3l _,A3l _,A3l _,A3l _,A3l _,A3l _,A3l _,Ay,Ay,A3l _,A3l _,trivial⟩)
theorem X8 (mY:Int):Aq (.agg (Af (X7 4 mY false 0))) (.agg (Af (Al (e4 mY)))):=AC (show Fv _ _ from⟨A3l _,A3l _,A3l _,A3l _,A3l _,A3l _,A3l _,A3l _,A3l _,A3l _,A3l _,A3l _,A3l _,Ay,Ay,A3l _,A3l _,trivial⟩)
theorem Aju (mY:Int) (oC:Bool) (sA:Int):A3z 210 [.agg (Af (Al (e3 mY oC sA))),.agg (Af (X7 3 mY oC sA))] [] (.t (.bool true)) []:=(J8 (e3 mY oC sA) JV).args ⟨A3l _,X9 mY oC sA,trivial⟩
theorem Ajt (mY:Int):A3z 210 [.agg (Af (Al (e4 mY))),.agg (Af (X7 4 mY false 0))] [] (.t (.bool true)) []:=(J8 (e4 mY) JV).args ⟨A3l _,X8 mY,trivial⟩
def A2h (mY:Int) (oC:Bool) (sA:Int):List T:=[.int .i8 3,.int .i64 mY,.int .i64 0,.int .i64 0,.int .i64 0,.int .i64 0,.bool oC,.int .i64 sA,.int .i8 0,.int .i64 0,.int .i64 0,.int .i64 0,.int .i64 0,.slice .any 1 [],.slice .any 3 [],.int .i64 0,.int .i64 0]
def A2g (mY:Int):List T:=[.int .i8 4,.int .i64 mY,.int .i64 0,.int .i64 0,.int .i64 0,.int .i64 0,.bool false,.int .i64 0,.int .i8 0,.int .i64 0,.int .i64 0,.int .i64 0,.int .i64 0,.slice .any 1 [],.slice .any 3 [],.int .i64 0,.int .i64 0]
theorem QP (mY:Int) (oC:Bool) (sA:Int):Al (e3 mY oC sA)=A2h mY oC sA:=rfl
theorem Kq (mY:Int):Al (e4 mY)=A2g mY:=rfl
theorem AH {mY:Int} (h:0<=mY/\mY<3):mY=0\/mY=1\/mY=2:=Aa
theorem Adx (mY:Int) (oC:Bool) (sA:Int) (h1:0<=mY/\mY<3) (h2:(0<=sA/\sA<=20)/\(oC=true->sA=0)):A3z 144 [.agg (Af (Al (e3 mY oC sA)))] [] (.t (.bool true)) []:=by
 have cs:=Aju mY oC sA;unfold X7 at cs;rw[QP]at cs⊢;cases oC
 all_goals
  refine yF Tryz.func144 ?_
  repeat'(first|exact Au|refine yC ?_ ?_|refine⟨λh=>?_⟩|refine D4 16 6 [(5,6)] [0,1,0,4,3,19,63,127] ?_|fail)
  all_goals first
   |(exfalso;simp_all;done)
   |(exfalso;simp_all;omega)
   |exact Ah Y (BL (by simp_all))
theorem Adw (mY:Int) (h1:0<=mY/\mY<3):A3z 144 [.agg (Af (Al (e4 mY)))] [] (.t (.bool true)) []:=by
 have cs:=Ajt mY;unfold X7 at cs;rw[Kq]at cs⊢;refine yF Tryz.func144 ?_
 repeat'(first|exact Au|refine yC ?_ ?_|refine⟨λh=>?_⟩|refine B5 16 6 ?_|fail)
 all_goals first
  |(exfalso;simp_all;done)
  |(exfalso;simp_all;omega)
  |exact Ah Y (BL (by simp_all))
theorem QK (s:MState) (h0:SmallC s.t0) (h1:SmallC s.t1) (h2:SmallC s.t2):A3z 145 [.agg (Af (Az s))] [] (.agg (Af (Az s))) []:=by
 have i0:=GI s.t0.parts h0.parts;have i1:=GI s.t1.parts h1.parts;have i2:=GI s.t2.parts h2.parts;have p0:=Gy s.t0.rH h0.rH;have p1:=Gy s.t1.rH h1.rH;have p2:=Gy s.t2.rH h2.rH;have dO:IntKind.i64.wrap (0+1)=1:=by decide+kernel
 have dD:IntKind.i64.wrap (1+1)=2:=by decide+kernel
 have dZ:IntKind.i64.wrap (2+1)=3:=by decide+kernel
 refine yF Tryz.func145 ?_
 repeat'(first|exact Au|refine yC ?_ ?_|refine⟨λh=>?_⟩|refine B6 5 ?_|refine BH ?_|rw[dO]|rw[dD]|rw[dZ]|fail)
 exact Ah Y (A3m Y)
theorem Uf (c:Coord) (hc:SmallC c) (oC:Bool) (sA:Int):A3z 42 [.agg (Af (AN c)),.t (.bool oC),.t (.int .i64 sA)] [] (.tuple [.agg (Af (AN (CT c oC sA))),.t (.int .i64 (CN c oC sA))]) []:=by
 cases oC
 ·exact V4 c hc sA
 ·exact WT c hc sA
structure SmallM (s:MState):Prop where
 t0:SmallC s.t0
 t1:SmallC s.t1
 t2:SmallC s.t2
theorem SmallM.mY {s:MState} (h:SmallM s) (t:Int):SmallC (Aj s t):=by
 unfold Aj;repeat' split
 ·exact h.t0
 ·exact h.t1
 ·exact h.t2
theorem HQ: ∀(l:List Pend) (s:MState) (p:Pend),CQ s (l++[p])=Hw (CQ s l) p.sZ p.part p.offset
 |[],_,_=>rfl
 |a::r,s,p=>HQ r _ p
def DY (s:MState) (mY:Int):MState:=if(Aj s mY).state=3 then CQ (AO s mY (C3 (Aj s mY))) (Aj s mY).rH else AO s mY (C3 (Aj s mY))
theorem Kg {p:Pend} (h:AZ p=true):(p.sZ=0\/p.sZ=1)/\(p.part=0\/p.part=1\/p.part=2):=by
 simp only[AZ,Uj]at h;omega
theorem Ae5 {c:Coord} (h:SmallC c) (oC:Bool) (sA:Int):SmallC (CT c oC sA):=by
 unfold CT;split
 ·exact JV
 ·exact⟨h.parts,h.rH⟩
theorem R3 (c:Coord):SmallC (C3 c):=by
 unfold C3;split
 ·exact JV
 ·split<;>exact⟨Ac,Ac⟩
theorem SmallM.set {s:MState} (h:SmallM s) (t:Int) {c:Coord} (hc:SmallC c):SmallM (AO s t c):=by
 unfold AO;repeat' split
 ·exact⟨hc,h.t1,h.t2⟩
 ·exact⟨h.t0,hc,h.t2⟩
 ·exact⟨h.t0,h.t1,hc⟩
theorem SmallM.grp {s:MState} (h:SmallM s) (g q n:Int):SmallM (Hw s g q n):=by
 unfold Hw;repeat' split
 all_goals exact⟨h.t0,h.t1,h.t2⟩
theorem SmallM.rH: ∀(l:List Pend) {s:MState},SmallM s->SmallM (CQ s l)
 |[],_,h=>h
 |_::r,_,h=>SmallM.rH r (h.grp _ _ _)
theorem SmallM.compl {s:MState} (h:SmallM s) (t:Int):SmallM (DY s t):=by
 unfold DY;split
 ·exact SmallM.rH _ (h.set t (R3 _))
 ·exact h.set t (R3 _)
def Ry:Option Int->AV
 |some i=>.tuple [.t (.int .i64 i),.t (.bool true)]
 |none=>.tuple [.t (.int .i64 0),.t (.bool false)]
theorem LP (s:MState) (lO:Int):A3z 39 [.agg (Af (Az s)),.t (.int .i64 lO)] [] (Ry (QH s lO)) []:=by
 have dO:IntKind.i64.wrap (0+1)=1:=by decide+kernel
 have dD:IntKind.i64.wrap (1+1)=2:=by decide+kernel
 have dZ:IntKind.i64.wrap (2+1)=3:=by decide+kernel
 refine Ra Ai Tryz.func39 Y false Y (by unfold Ry;split<;>rfl) ?_
 repeat'(first|exact Au|refine yC ?_ ?_|refine⟨λh=>?_⟩|refine B6 5 ?_|refine BH ?_|simp only[dO,dD,dZ]|fail)
 all_goals first
  |exact Ah Y (A3m (by simp[Ry,QH,Ms,Aj, *]<;>rfl))
  |exact⟨.inr trivial,_,_,Y,A3m (by simp[Ry,QH,Ms,Aj, *]<;>rfl)⟩
