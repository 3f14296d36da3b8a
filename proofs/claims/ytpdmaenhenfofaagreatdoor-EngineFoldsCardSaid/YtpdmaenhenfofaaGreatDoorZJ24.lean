/- Contracts and laws, joined: Lj, Lk, Ll, Lm, Va, Vb, Vc, Vd. No condition beside those that each theorem names. -/
import Derived.Test.YtpdmaenhenfofaaGreatDoorZM10
import Derived.Test.YtpdmaenhenfofaaGreatDoorZJ19
import Derived.Test.YtpdmaenhenfofaaGreatDoorZJ10
import Derived.Test.YtpdmaenhenfofaaGreatDoorZJ23
import Derived.Test.YtpdmaenhenfofaaGreatDoorZJ14
import Derived.Test.YtpdmaenhenfofaaGreatDoorZJ20
import Derived.Test.YtpdmaenhenfofaaGreatDoorZJ17
set_option linter.unusedVariables false
set_option linter.unusedSimpArgs false
namespace Go.Proofs.YtpdmaenhenfofaaGreatDoor
open Go.Am
attribute [local irreducible] Decidable.decide
set_option maxRecDepth 100000
set_option maxHeartbeats 1000000
theorem Afd (f:Fil): ∀(xs:List Fil) (o:List Fil),(∀x∈xs,C4 x.name f.name=true∧x.name≠f.name)→xs.foldl (Cn f) (o,false)=(o++xs,false)
 |[],o,_=>by simp
 |x::r,o,h=>by
  obtain⟨h1,h2⟩:=h x Z
  have e:Cn f (o,false) x=(o++[x],false):=by simp[Cn,h1,h2]
  rw[List.foldl_cons,e,Afd f r (o++[x]) fun y hy=>h y (by simp[hy])]
  simp
theorem Zn (f:Fil): ∀(ys:List Fil) (o:List Fil),(∀y∈ys,y.name≠f.name)→ys.foldl (Cn f) (o,true)=(o++ys,true)
 |[],o,_=>by simp
 |y::r,o,h=>by
  have h2:=h y Z
  have e:Cn f (o,true) y=(o++[y],true):=by simp[Cn,h2]
  rw[List.foldl_cons,e,Zn f r (o++[y]) fun z hz=>h z (by simp[hz])]
  simp
def TJ (f:Fil):List Fil:=if f.b=[]then[]else[f]
theorem SK (f:Fil) (xs mid ys:List Fil) (hx: ∀x∈xs,C4 x.name f.name=true∧x.name≠f.name) (hm:mid=[]∨ ∃g,mid=[g]∧g.name=f.name) (hn:C4 f.name f.name=false) (hy: ∀y∈ys,C4 y.name f.name=false∧y.name≠f.name):F7 (xs++(mid++ys)) f=xs++(TJ f++ys):=by
 have e:GS (xs++(mid++ys)) f=if mid++ys=[]then(xs,false)else(xs++(TJ f++ys),true):=by
  unfold GS
  rw[List.foldl_append,Afd f xs [] hx,List.nil_append]
  rcases hm with rfl|⟨g,rfl,hg⟩
  ·cases ys with
   |nil=>simp
   |cons y r=>
    obtain⟨h1,h2⟩:=hy y Z
    have e2:Cn f (xs,false) y=(xs++TJ f++[y],true):=by
     simp only[Cn,h1,h2,TJ]
     by_cases hb:f.b=[]<;>simp[hb]
    rw[List.nil_append,List.foldl_cons,e2,Zn f r _ fun z hz=>(hy z (by simp[hz])).2]
    simp
  ·have e2:Cn f (xs,false) g=(xs++TJ f,true):=by
    simp only[Cn,hg,hn,TJ]
    by_cases hb:f.b=[]<;>simp[hb]
   rw[List.singleton_append,List.foldl_cons,e2,Zn f ys _ fun z hz=>(hy z hz).2]
   simp
 unfold F7
 rw[e]
 by_cases hz:mid++ys=[]
 ·rw[if_pos hz]
  have hys:ys=[]:=(List.append_eq_nil_iff.1 hz).2
  subst hys
  by_cases hb:f.b=[]<;>simp[hb,TJ]
 ·rw[if_neg hz];simp
structure NmOk (nm:Nat→Bs) (K:Nat):Prop where
 ok: ∀k,k<K→My (nm k)=true
 lt: ∀j k,j<k→k<K→C4 (nm j) (nm k)=true∧C4 (nm k) (nm j)=false∧nm j≠nm k
 irr: ∀k,k<K→C4 (nm k) (nm k)=false
 le:K≤9
def GQ (nm:Nat→Bs) (c:Nat→Bs×Int) (k:Nat):List Fil:=if(c k).1=[]then[]else[⟨nm k,(c k).1,(c k).2⟩]
def Dp (nm:Nat→Bs) (K:Nat) (c:Nat→Bs×Int):List Fil:=(List.range K).flatMap (GQ nm c)
theorem Fq {nm:Nat→Bs} {c:Nat→Bs×Int} {k:Nat} {f:Fil} (h:f∈GQ nm c k):f.name=nm k∧f.b=(c k).1∧f.sure=(c k).2∧f.b≠[]:=by
 unfold GQ at h
 split at h
 ·simp at h
 ·rename_i hb;simp at h;subst h;exact⟨J,J,J,hb⟩
def EB (c:Nat→Bs×Int) (k:Nat) (v:Bs×Int):Nat→Bs×Int:=fun j=>if j=k then v else c j
theorem Jn (nm:Nat→Bs) {K k:Nat} (hk:k<K) (c:Nat→Bs×Int):Dp nm K c=(List.range k).flatMap (GQ nm c)++(GQ nm c k++(List.range' (k+1) (K-(k+1))).flatMap (GQ nm c)):=by
 unfold Dp
 have e:List.range K=List.range k++k::List.range' (k+1) (K-(k+1)):=by
  have h1:List.range K=List.range (k+(K-k)):=by congr 1;omega
  have h2:K-k=(K-(k+1))+1:=by omega
  rw[h1,List.range_add,h2,List.range_succ_eq_map,List.map_cons,List.map_map,List.range'_eq_map_range]
  congr 2
  refine List.map_congr_left fun a _=>?_
  simp only[Function.comp];omega
 rw[e,List.flatMap_append,List.flatMap_cons]
theorem Abm {nm:Nat→Bs} {c:Nat→Bs×Int} {k j:Nat} {v:Bs×Int} (h:j≠k):GQ nm (EB c k v) j=GQ nm c j:=by simp[GQ,EB,h]
theorem Jo {nm:Nat→Bs} {c:Nat→Bs×Int} {k:Nat} {v:Bs×Int}: ∀{l:List Nat},k∉l→l.flatMap (GQ nm (EB c k v))=l.flatMap (GQ nm c)
 |[],_=>rfl
 |j::r,h=>by
  rw[List.flatMap_cons,List.flatMap_cons,Abm (fun e=>h (by simp[e])),Jo fun hr=>h (by simp[hr])]
theorem NB {nm:Nat→Bs} {K k:Nat} (hn:NmOk nm K) (hk:k<K) (c:Nat→Bs×Int) (b:Bs) (s:Int):F7 (Dp nm K c) ⟨nm k,b,s⟩=Dp nm K (EB c k (b,s)):=by
 rw[Jn nm hk c,Jn nm hk (EB c k (b,s)),Jo Z,Jo (by simp[List.mem_range'_1];omega)]
 refine(SK ⟨nm k,b,s⟩ _ _ _ (fun x hx=>?_) ?_ (hn.irr k hk) (fun y hy=>?_)).trans ?_
 ·obtain⟨j,hj,hx⟩:=List.mem_flatMap.1 hx
  rw[List.mem_range]at hj
  rw[(Fq hx).1]
  obtain⟨h1,_,h3⟩:=hn.lt j k hj hk
  exact⟨h1,h3⟩
 ·unfold GQ
  split
  ·exact .inl J
  ·exact .inr ⟨_,J,J⟩
 ·obtain⟨j,hj,hy⟩:=List.mem_flatMap.1 hy
  rw[List.mem_range'_1]at hj
  rw[(Fq hy).1]
  obtain⟨_,h2,h3⟩:=hn.lt k j O O
  exact⟨h2,fun e=>h3 e.symm⟩
 ·congr 2
  simp[TJ,GQ,EB]
theorem S2 {nm:Nat→Bs} {K k:Nat} (hn:NmOk nm K) (hk:k<K) (c:Nat→Bs×Int):(Dp nm K c).find? (fun f=>f.name==nm k)=if(c k).1=[]then none else some ⟨nm k,(c k).1,(c k).2⟩:=by
 rw[Jn nm hk c,List.find?_append,List.find?_append]
 have h1:((List.range k).flatMap (GQ nm c)).find? (fun f=>f.name==nm k)=none:=by
  rw[List.find?_eq_none]
  intro x hx
  obtain⟨j,hj,hx⟩:=List.mem_flatMap.1 hx
  rw[List.mem_range]at hj
  rw[(Fq hx).1]
  simpa using(hn.lt j k hj hk).2.2
 have h2:((List.range' (k+1) (K-(k+1))).flatMap (GQ nm c)).find? (fun f=>f.name==nm k)=none:=by
  rw[List.find?_eq_none]
  intro x hx
  obtain⟨j,hj,hx⟩:=List.mem_flatMap.1 hx
  rw[List.mem_range'_1]at hj
  rw[(Fq hx).1]
  simpa using fun e=>(hn.lt k j O O).2.2 e.symm
 rw[h1,h2]
 unfold GQ
 split<;>simp
theorem Aa8 {nm:Nat→Bs} {K k:Nat} (hn:NmOk nm K) (hk:k<K) (c:Nat→Bs×Int):H7 (Dp nm K c) (nm k)= !decide ((c k).1=[]):=by
 have h:=S2 hn hk c
 have e:H7 (Dp nm K c) (nm k)=((Dp nm K c).find? (fun f=>f.name==nm k)).isSome:=by
  unfold H7
  rw[Bool.eq_iff_iff,List.find?_isSome,List.any_eq_true]
 rw[e,h]
 by_cases hz:(c k).1=[]<;>simp[hz]
theorem M5 {nm:Nat→Bs} {K k:Nat} (hn:NmOk nm K) (hk:k<K) (c:Nat→Bs×Int):(H8 (Dp nm K c) (nm k)).b=(c k).1∧((c k).1≠[]→(H8 (Dp nm K c) (nm k)).sure=(c k).2):=by
 have h:=S2 hn hk c
 unfold H8
 rw[h]
 by_cases hz:(c k).1=[]<;>simp[hz,Abl]
end Go.Proofs.YtpdmaenhenfofaaGreatDoor
namespace Go.Proofs.YtpdmaenhenfofaaGreatDoor
open Go.Am
attribute [local irreducible] Decidable.decide
set_option maxRecDepth 100000
set_option maxHeartbeats 1000000
theorem OM (nm:Nat→Bs) (c:Nat→Bs×Int) (k:Nat):Ci (GQ nm c k)=(c k).1.length∧(GQ nm c k).length≤1:=by
 unfold GQ
 split
 ·rename_i h;simp[Ci,h]
 ·simp[Ci]
theorem XC (a b:List Fil):Ci (a++b)=Ci a+Ci b:=by simp[Ci]
theorem NG (nm:Nat→Bs) {K k:Nat} (hk:k<K) (c:Nat→Bs×Int) (v:Bs×Int):Ci (Dp nm K (EB c k v))+(c k).1.length=Ci (Dp nm K c)+v.1.length∧(c k).1.length≤Ci (Dp nm K c):=by
 rw[Jn nm hk c,Jn nm hk (EB c k v),Jo Z,Jo (by simp[List.mem_range'_1];omega)]
 have h1:=(OM nm c k).1
 have h2:=(OM nm (EB c k v) k).1
 have h3:(EB c k v k).1.length=v.1.length:=by simp[EB]
 simp only[XC]
 omega
theorem Cb (nm:Nat→Bs) (c:Nat→Bs×Int): ∀l:List Nat,(l.flatMap (GQ nm c)).length≤l.length
 |[]=>by simp
 |k::r=>by
  have:=Cb nm c r
  have:=(OM nm c k).2
  rw[List.flatMap_cons,List.length_append,List.length_cons];omega
theorem Sy (nm:Nat→Bs) (K:Nat) (c:Nat→Bs×Int):(Dp nm K c).length≤K:=by
 have:=Cb nm c (List.range K)
 simpa[Dp]using this
def CO (c:Nat→Bs×Int):Prop:= ∀k,0≤(c k).2∧(c k).2≤((c k).1.length:Int)
theorem CO.upd {c:Nat→Bs×Int} (h:CO c) (k:Nat) {v:Bs×Int} (h1:0≤v.2) (h2:v.2≤(v.1.length:Int)):CO (EB c k v):=fun j=>by
 unfold EB
 split
 ·exact⟨h1,h2⟩
 ·exact h j
theorem Abg {nm:Nat→Bs} {K:Nat} (hn:NmOk nm K) {c:Nat→Bs×Int} (hc:CO c) (hu:Ci (Dp nm K c)≤65536):DOk (Dp nm K c):=by
 refine⟨by have:=Sy nm K c;have:=hn.le;omega,hu,fun f hf=>?_,?_⟩
 ·obtain⟨j,hj,hf⟩:=List.mem_flatMap.1 hf
  rw[List.mem_range]at hj
  obtain⟨h1,h2,h3,h4⟩:=Fq hf
  have:=hc j
  refine⟨by rw[h1];exact hn.ok j hj,h4,by rw[h3];exact this.1,by rw[h3,h2];exact this.2⟩
 ·unfold Dp
  rw[List.pairwise_flatMap]
  refine⟨fun j _=>?_,?_⟩
  ·unfold GQ;split<;>simp
  ·rw[List.pairwise_iff_getElem]
   intro i j hi hj hij x hx y hy
   simp only[List.length_range]at hi hj
   rw[List.getElem_range]at hx hy
   rw[(Fq hx).1,(Fq hy).1]
   exact(hn.lt i j hij hj).1
theorem Abc {nm:Nat→Bs} {K k:Nat} (hn:NmOk nm K) (hk:k<K) {c:Nat→Bs×Int} (hc:CO c):(H8 (Dp nm K c) (nm k)).sure=(c k).2:=by
 by_cases hz:(c k).1=[]
 ·have h:=S2 hn hk c
  have h2:=hc k
  rw[hz]at h2
  rw[if_pos hz]at h
  simp only[H8,h,Option.getD_none,Abl]
  simp only[List.length_nil]at h2
  omega
 ·exact(M5 hn hk c).2 hz
def GR (fs:List Fil) (ws:List Wr) (P:List Fil→Prop):Prop:=PD fs ws∧((Ht fs ws).2=none→P (Ht fs ws).1)
theorem GR.nil {fs:List Fil} {P:List Fil→Prop} (h:P fs):GR fs [] P:=⟨trivial,fun _=>h⟩
theorem GR.cons {fs:List Fil} {w:Wr} {ws:List Wr} {P:List Fil→Prop} (h1:DOk fs) (h2:WOk fs w) (h:Ci (doF fs w)≤65536→GR (doF fs w) ws P):GR fs (w::ws) P:=by
 refine⟨⟨h1,h2,fun hu=>(h hu).1⟩,fun hn=>?_⟩
 by_cases hu:Ci (doF fs w)≤65536
 ·have e:Ht fs (w::ws)=Ht (doF fs w) ws:=by simp[Ht,hu]
  rw[e]at hn⊢
  exact(h hu).2 hn
 ·have e:Ht fs (w::ws)=(fs,some w):=by simp[Ht,hu]
  rw[e]at hn;simp at hn
theorem GR.appK {nm:Nat→Bs} {K k:Nat} (hn:NmOk nm K) (hk:k<K) {c:Nat→Bs×Int} (hc:CO c) (hu:Ci (Dp nm K c)≤65536) {b:Bs} (hb:b≠[]) (hbl:b.length≤2000) {ws:List Wr} {P:List Fil→Prop} (h:Ci (Dp nm K (EB c k ((c k).1++b,(c k).2)))≤65536→GR (Dp nm K (EB c k ((c k).1++b,(c k).2))) ws P):GR (Dp nm K c) (⟨0,nm k,b,0⟩::ws) P:=by
 have e:doF (Dp nm K c) ⟨0,nm k,b,0⟩=Dp nm K (EB c k ((c k).1++b,(c k).2)):=by
  unfold doF Wb
  rw[if_pos J]
  simp only[(M5 hn hk c).1,Abc hn hk hc]
  exact NB hn hk c _ _
 obtain⟨u1,u2⟩:=NG nm hk c ((c k).1++b,(c k).2)
 simp only[List.length_append]at u1
 refine .cons (Abg hn hc hu) ⟨⟨hn.ok k hk,.inl ⟨J,hb,J⟩⟩,fun h=>absurd J h,?_,?_,by simp only;omega,?_⟩ (by rw[e];exact h)
 ·rw[e];have:=Sy nm K (EB c k ((c k).1++b,(c k).2));have:=hn.le;omega
 ·rw[e];omega
 ·simp only[(M5 hn hk c).1];omega
theorem GR.opK {nm:Nat→Bs} {K k:Nat} (hn:NmOk nm K) (hk:k<K) {c:Nat→Bs×Int} (hc:CO c) (hu:Ci (Dp nm K c)≤65536) (hb:(c k).1≠[]) {op:Int} (ho:op=1∨op=4) {ws:List Wr} {P:List Fil→Prop} (h:Ci (Dp nm K (EB c k (if op=1 then((c k).1,(c k).1.length)else([],0))))≤65536→GR (Dp nm K (EB c k (if op=1 then((c k).1,(c k).1.length)else([],0)))) ws P):GR (Dp nm K c) (⟨op,nm k,[],0⟩::ws) P:=by
 have e:doF (Dp nm K c) ⟨op,nm k,[],0⟩=Dp nm K (EB c k (if op=1 then((c k).1,(c k).1.length)else([],0))):=by
  unfold doF Wb
  rw[if_neg (by simp only;omega)]
  rcases ho with rfl|rfl
  ·simp only[if_pos,(M5 hn hk c).1]
   exact NB hn hk c _ _
  ·rw[if_neg Z,if_neg Ab]
   exact NB hn hk c _ _
 obtain⟨u1,u2⟩:=NG nm hk c (if op=1 then((c k).1,((c k).1.length:Int))else([],0))
 have u3:(if op=1 then((c k).1,((c k).1.length:Int))else([],0)).1.length≤(c k).1.length:=by split<;>simp
 refine .cons (Abg hn hc hu) ⟨⟨hn.ok k hk,.inr ⟨ho,J,J⟩⟩,fun _=>?_,?_,?_,by simp,?_⟩ (by rw[e];exact h)
 ·simp only[Aa8 hn hk c,hb,decide_false,Bool.not_false]
 ·rw[e];have:=Sy nm K (EB c k (if op=1 then((c k).1,((c k).1.length:Int))else([],0)));have:=hn.le;omega
 ·rw[e];omega
 ·simp only[(M5 hn hk c).1];omega
def FB (l:List Entry):Bs:=(l.map AH).flatMap BB
theorem Acq (a b:List Entry):FB (a++b)=FB a++FB b:=by simp[FB]
theorem Acp (l:List Entry):4*l.length≤(FB l).length:=by
 induction l with
 |nil=>simp
 |cons x r ih=>
  have:FB (x::r)=BB (AH x)++FB r:=rfl
  rw[this,List.length_append,List.length_cons]
  have:(BB (AH x)).length=(AH x).length+4:=by simp[BB]
  omega
theorem Aco {l:List Entry} (h:l≠[]):FB l≠[]:=fun e=>by
 have:=Acp l
 rw[e]at this
 have:=List.length_pos_iff.2 h
 simp only[List.length_nil]at*;omega
theorem XD (c:Nat→Bs×Int) (k:Nat):EB c k ((c k).1,(c k).2)=c:=by
 funext j;unfold EB;split
 ·rename_i h;subst h;rfl
 ·rfl
theorem NI (c:Nat→Bs×Int) (k:Nat) (u v:Bs×Int):EB (EB c k u) k v=EB c k v:=by
 funext j;unfold EB;split<;>rfl
theorem RQ (c:Nat→Bs×Int) (k:Nat) (v:Bs×Int):EB c k v k=v:=by simp[EB]
theorem GR.apps {nm:Nat→Bs} {K k:Nat} (hn:NmOk nm K) (hk:k<K) {ws:List Wr} {P:List Fil→Prop}: ∀{l:List Entry} {c:Nat→Bs×Int},CO c→Ci (Dp nm K c)≤65536→(∀x∈l,B9 x=true)→(Ci (Dp nm K (EB c k ((c k).1++FB l,(c k).2)))≤65536→GR (Dp nm K (EB c k ((c k).1++FB l,(c k).2))) ws P)→GR (Dp nm K c) (l.map (KJ (nm k))++ws) P
 |[],c,hc,hu,hx,h=>by
  have e:((c k).1++FB [],(c k).2)=((c k).1,(c k).2):=by simp[FB]
  rw[e,XD]at h
  exact h hu
 |x::l,c,hc,hu,hx,h=>by
  have h2:=hc k
  have hl:=Fr (hx x Z)
  have hf:(BB (AH x)).length=(AH x).length+4:=by simp[BB]
  refine GR.appK hn hk hc hu (b:=BB (AH x)) (by simp[BB]) O fun hu2=>?_
  refine GR.apps hn hk (l:=l) (hc.upd k h2.1 ?_) hu2 (fun y hy=>hx y (by simp[hy])) ?_
  ·simp only[List.length_append];omega
  ·have e:FB (x::l)=BB (AH x)++FB l:=rfl
   rw[RQ,NI,List.append_assoc,←e]
   exact h
def cE (l:List Entry):Bs×Int:=(FB l,((FB l).length:Int))
def GN (es:Nat→List Entry) (k:Nat) (l:List Entry):Nat→List Entry:=fun j=>if j=k then l else es j
def dk (nm:Nat→Bs) (K:Nat) (es:Nat→List Entry):List Fil:=Dp nm K (fun k=>cE (es k))
theorem Ab0 (nm:Nat→Bs) (K:Nat) (es:Nat→List Entry) (k:Nat) (l:List Entry):Dp nm K (EB (fun k=>cE (es k)) k (cE l))=dk nm K (GN es k l):=by
 unfold dk
 congr 1
 funext j;unfold EB GN;split<;>rfl
theorem Acs (es:Nat→List Entry):CO (fun k=>cE (es k)):=fun k=>⟨by simp[cE],by simp[cE]⟩
theorem GR.put {nm:Nat→Bs} {K k:Nat} (hn:NmOk nm K) (hk:k<K) {es:Nat→List Entry} (hu:Ci (dk nm K es)≤65536) {l:List Entry} (hl:l≠[]) (hx: ∀x∈l,B9 x=true) {ws:List Wr} {P:List Fil→Prop} (h:Ci (dk nm K (GN es k (es k++l)))≤65536→GR (dk nm K (GN es k (es k++l))) ws P):GR (dk nm K es) (CX (nm k) l++ws) P:=by
 unfold CX
 rw[List.append_assoc]
 refine GR.apps hn hk (Acs es) hu hx fun hu2=>?_
 have e1:(cE (es k)).1++FB l=FB (es k++l):=(Acq _ _).symm
 rw[e1]at hu2⊢
 refine GR.opK hn hk (op:=1) ((Acs es).upd k (by simp[cE]) (by rw[Acq];simp[cE];omega)) hu2 ?_ (.inl J) ?_
 ·rw[RQ];exact Aco (by simp[hl])
 ·rw[if_pos J,RQ,NI]
  have e2:(FB (es k++l),((FB (es k++l)).length:Int))=cE (es k++l):=rfl
  rw[e2,Ab0]
  exact h
theorem GR.del {nm:Nat→Bs} {K k:Nat} (hn:NmOk nm K) (hk:k<K) {es:Nat→List Entry} (hu:Ci (dk nm K es)≤65536) (hne:es k≠[]) {ws:List Wr} {P:List Fil→Prop} (h:Ci (dk nm K (GN es k []))≤65536→GR (dk nm K (GN es k [])) ws P):GR (dk nm K es) (⟨4,nm k,[],0⟩::ws) P:=by
 refine GR.opK hn hk (op:=4) (Acs es) hu (Aco hne) (.inr J) ?_
 rw[if_neg Ab]
 have e2:(([],0):Bs×Int)=cE []:=rfl
 rw[e2,Ab0]
 exact h
theorem Aew {nm:Nat→Bs} {K k:Nat} (hn:NmOk nm K) (hk:k<K) {es:Nat→List Entry} (hu:Ci (dk nm K es)≤65536) (hw: ∀x∈es k,WE x∧B9 x=true):FileIs (dk nm K es) (nm k) (es k):=by
 have h1:=Aa8 hn hk (fun k=>cE (es k))
 have h2:=M5 hn hk (fun k=>cE (es k))
 have h3:=(NG nm hk (fun k=>cE (es k)) ([],0)).2
 have h4:=Acp (es k)
 have h5:(FB (es k)).length≤65536:=by
  have:Ci (Dp nm K (fun k=>cE (es k)))≤65536:=hu
  simp only[cE]at h3;simp only[cE]at this;omega
 refine⟨fun he=>?_,fun he=>⟨?_,h2.1⟩,hw,by omega,by show(FB (es k)).length≤_;omega⟩
 ·show H7 (Dp nm K _) _=_
  rw[h1];simp[cE,he,FB]
 ·show H7 (Dp nm K _) _=_
  rw[h1];simp[cE,Aco he]
theorem Aev (nm:Nat→Bs) (K:Nat):dk nm K (fun _=>[])=[]:=by
 unfold dk Dp
 rw[List.flatMap_eq_nil_iff]
 intro k _
 simp[GQ,cE,FB]
def nmF (e:Int) (k:Nat):Bs:=if k=0 then DH e 1 else MQ 1 k
def kF (e:Int):Nat:=if e=0 then 1 else 9
theorem Al4 (e:Int) (he:e=0∨e=1):NmOk (nmF e) (kF e):=by
 rcases he with rfl|rfl
 ·refine⟨fun k hk=>?_,fun j k h1 h2=>?_,fun k hk=>?_,by decide⟩
  ·have:k<1:=hk
   have:k=0:=by omega
   subst this;decide+kernel
  ·have:k<1:=h2
   omega
  ·have:k<1:=hk
   have:k=0:=by omega
   subst this;decide+kernel
 ·have h1: ∀k,k<9→My (nmF 1 k)=true:=by decide+kernel
  have h2: ∀k,k<9→ ∀j,j<k→(C4 (nmF 1 j) (nmF 1 k)=true∧C4 (nmF 1 k) (nmF 1 j)=false∧nmF 1 j≠nmF 1 k):=by decide+kernel
  have h3: ∀k,k<9→C4 (nmF 1 k) (nmF 1 k)=false:=by decide+kernel
  exact⟨h1,fun j k hj hk=>h2 k hk j hj,h3,by decide⟩
end Go.Proofs.YtpdmaenhenfofaaGreatDoor
namespace Go.Proofs.YtpdmaenhenfofaaGreatDoor
open Go.Am
attribute [local irreducible] Decidable.decide
set_option maxRecDepth 100000
set_option maxHeartbeats 1000000
def plK (e:Int) (b:Batch):Nat:=if e=1∧b.txn=true then b.pid.toNat else 0
def Nd (e:Int) (es:Nat→List Entry) (o:Opn) (yes:Bool):Nat→List Entry:=if e=0 then GN es 0 (es 0++[Kf o yes])else GN (GN es 0 (es 0++(if yes=true then BC o else[Ke o]))) o.pid.toNat []
structure PB (p:Part):Prop where
 ok:POk p
 fin:p.fin≤2400
 rows:p.rows.length≤2400
 opens:p.opens.length≤60
theorem PB.gp {p:Part} (h:PB p):GP p:=⟨h.ok,by have:=h.rows;omega,by have:=h.opens;omega,by have:=h.fin;omega⟩
theorem Aiq {p:Part} {n:Int} (h:POk p) (h1:p.start≤n) (h2:n≤p.fin):POk (LW p n):=by
 have h0:=h.b0
 refine⟨by show 0≤n;omega,h2,h.b2,h.srt.filter _,fun r hr=>?_,h.osrt,fun r hr=>h.rok r (List.mem_filter.1 hr).1,h.may,h.ook⟩
 have hm:=List.mem_filter.1 hr
 have:=h.rin r hm.1
 have h3:n≤r.offset:=by simpa using hm.2
 exact⟨h3,this.2⟩
structure FsP (e:Int) (F:Part→(Nat→List Entry)→Prop):Prop where
 zero:F Cq (fun _=>[])
 one: ∀{p:Part} {es:Nat→List Entry} {b:Batch},F p es→PB p→A1 b=true→B4 p.prods b=0→Cl p.prods b=false→Hw p b=none→F (Hj p b) (GN es (plK e b) (es (plK e b)++[eD b]))
 fin: ∀{p:Part} {es:Nat→List Entry} {k:Nat} {o:Opn} {yes:Bool},F p es→PB p→p.opens[k]?=some o→F (Eb e p k o yes) (Nd e es o yes)
 cut: ∀{p:Part} {es:Nat→List Entry} {n:Int},F p es→PB p→p.start≤n→n≤p.fin→F (LW p n) (GN es 0 (es 0++[eC n]))
 side: ∀{p:Part} {es:Nat→List Entry} {o:Opn},e=1→F p es→PB p→o∈p.opens→es o.pid.toNat≠[]
 fold: ∀{p:Part} {es:Nat→List Entry} {fs:List Fil},F p es→PB p→fs.length≤64→(∀k,k<kF e→FileIs fs (nmF e k) (es k))→Ct Tryz.prog 27 [.agg (Aj (CC fs)),.t (.int .i8 e)] [] (.tuple [.agg (Aj (A5 p)),.t (.bool true)]) []
structure LQ (e:Int) (F:Part→(Nat→List Entry)→Prop) (n i:Nat) (p:Part) (fs:List Fil):Prop where
 tq:TQ i p
 ok:POk p
 le:i≤n
 used:Ci fs≤65536
 es: ∃es,fs=dk (nmF e) (kF e) es∧(∀k,∀x∈es k,WE x∧B9 x=true)∧F p es
theorem KP {P:Entry→Prop} {es:Nat→List Entry} {k:Nat} {l:List Entry} (h: ∀k,∀x∈es k,P x) (hl: ∀x∈l,P x): ∀j,∀x∈GN es k l j,P x:=fun j x hx=>by
 unfold GN at hx
 split at hx
 ·exact hl x hx
 ·exact h j x hx
theorem N9 {P:Entry→Prop} {a b:List Entry} (ha: ∀x∈a,P x) (hb: ∀x∈b,P x): ∀x∈a++b,P x:=fun x hx=>(List.mem_append.1 hx).elim (ha x) (hb x)
theorem YK {o:Opn} (h:BZ o=true): ∀x∈BC o,WE x∧B9 x=true:=fun x hx=>by
 have hm:=List.all_eq_true.1 (Iz h).1 x hx
 refine⟨?_,hm⟩
 unfold BC at hx
 obtain⟨i,hi,rfl⟩:=List.mem_mapIdx.1 hx
 unfold Fs
 split
 ·exact .Y1 _ _
 ·exact .Y0 _
theorem Hc {o:Opn} (h:BZ o=true):((o.pid.toNat:Nat):Int)=o.pid∧1≤o.pid.toNat∧o.pid.toNat≤8:=by
 have:=EE h;omega
theorem Sm {e o:Int} {k:Nat} (hk:0<k) (ho:(k:Int)=o):nmF e k=MQ 1 o:=by
 unfold nmF;rw[if_neg O,ho]
theorem GR.act {e:Int} {n i:Nat} {p:Part} {fs:List Fil} {F:Part→(Nat→List Entry)→Prop} {w:List Wr} (h:GR fs w (LQ e F n i p)) (hl:w.length≤1000000):PD fs w∧w.length≤1000000∧((Ht fs w).2=none→LQ e F n i p (Ht fs w).1):=⟨h.1,hl,h.2⟩
theorem Lu (nm:Bs) (l:List Entry):(CX nm l).length=l.length+1:=by simp[CX]
theorem Ry {e:Int} {F:Part→(Nat→List Entry)→Prop} (he:e=0∨e=1) (hF:FsP e F) {l:List Act2} (hg:DP l=false):FoldsLaw e l (LQ e F l.length):=by
 have hgt:=XE (e:=e) hg
 simp only[DP,Bool.or_eq_false_iff,decide_eq_false_iff_not]at hg
 obtain⟨h60,hall⟩:=hg
 have hn:=Al4 e he
 have h0K:0<kF e:=by unfold kF;split<;>omega
 have hpb: ∀{i:Nat} {p:Part} {fs:List Fil},LQ e F l.length i p fs→PB p:=fun{i p fs} h=>by
  have h1:=h.tq.fin;have h2:=h.tq.rows;have h3:=h.tq.opens;have h4:=h.le
  exact⟨h.ok,by omega,by omega,by omega⟩
 have hup: ∀{i:Nat} {p:Part} {fs:List Fil},LQ e F l.length i p fs→i<l.length→LQ e F l.length (i+1) p fs:=fun{i p fs} h hi=>⟨h.tq.up,h.ok,hi,h.used,h.es⟩
 refine⟨⟨⟨QV Xk Ab Ab,by decide,by decide,by decide⟩,Xk,Nat.zero_le _,by simp[Ci],fun _=>[],(Aev _ _).symm,fun _ x hx=>by simp at hx,hF.zero⟩,fun h=>⟨h.tq.small,h.ok⟩,fun{i a} ha=>?_,fun{i p fs a} hQ ha hne=>?_,fun{i p fs a} hQ ha hz=>?_,fun{i p fs} hQ=>?_⟩
 ·have:=List.any_eq_false.1 hall a (List.mem_of_getElem? ha)
  have:=(Km (by simpa using this)).2 a.b Z
  omega
 ·have hi:=(List.getElem?_eq_some_iff.1 ha).1
  have e1:(Cw e p a).part=p:=by
   unfold Cw at hne⊢
   split
   ·rename_i h0;rw[if_pos h0]at hne;split
    ·rfl
    ·rename_i hc;rw[if_neg hc]at hne;exact absurd (Classical.not_not.1 hc) hne
   ·rename_i h0;rw[if_neg h0]at hne;split
    ·rename_i h1;rw[if_pos h1]at hne;split
     ·rfl
     ·rename_i hc;rw[if_neg hc]at hne;exact absurd (Classical.not_not.1 hc) hne
    ·rename_i h1;rw[if_neg h1]at hne;split
     ·rename_i h2;rw[if_pos h2]at hne;split
      ·rfl
      ·rename_i hc;rw[if_neg hc]at hne;exact absurd (Classical.not_not.1 hc) hne
     ·rfl
  rw[e1];exact hup hQ hi
 ·have hi:=(List.getElem?_eq_some_iff.1 ha).1
  have hP:=hpb hQ
  have hst:=R8 (e:=e) (a:=a) hQ.tq (by have:=hQ.le;omega)
  obtain⟨es,hfs,hwe,hf⟩:=hQ.es
  have hus:=hQ.used
  rw[hfs]at hus
  have hnil:(Cw e p a).part=p→(Cw e p a).w=[]→PD fs (Cw e p a).w∧(Cw e p a).w.length≤1000000∧((Ht fs (Cw e p a).w).2=none→LQ e F l.length (i+1) (Cw e p a).part (Ht fs (Cw e p a).w).1):=fun h1 h2=>by
   rw[h1,h2]
   exact GR.act (GR.nil (hup hQ hi)) Z
  unfold Cw at hz
  split at hz
  ·rename_i h0
   split at hz
   ·rename_i hc;exact absurd hz hc
   ·obtain⟨hbad,hm,hc,hA⟩:=Nz hz
    have hd:Cw e p a=B8 e 1 p (txB a):=by unfold Cw;rw[if_pos h0,if_neg (by simpa using hz)]
    generalize txB a=b at*
    rcases hA with⟨_,hR⟩|⟨hi2,hrc,hR⟩
    ·exact hnil (by rw[hd,hR]) (by rw[hd,hR])
    ·rw[hd,hR]at hst⊢
     simp only at hst⊢
     have hok:=Sj hP.ok hm hc hi2 hrc
     have hmb:=AU hm
     have hbb:=Fv hm
     unfold Cm at hbb
     have hW:X6 e 1 b=CX (nmF e (plK e b)) [eD b]++[]:=by
      rw[List.append_nil]
      unfold X6 plK Dv
      by_cases ht:b.txn=true
      ·simp only[ht,and_true,if_true]
       by_cases h1:e=1
       ·rw[if_pos h1,if_pos h1,Sm (k:=b.pid.toNat) (o:=b.pid) O O];rfl
       ·rw[if_neg h1,if_neg h1];rfl
      ·rw[if_neg ht,if_neg (fun h=>ht h.2)];rfl
     have hkk:plK e b<kF e:=by
      unfold plK kF
      split
      ·rename_i h;rw[if_neg O];omega
      ·split<;>omega
     have hwd: ∀x∈[eD b],WE x∧B9 x=true:=fun x hx=>by
      rw[List.mem_singleton.1 hx];exact⟨.D b,HE hm⟩
     refine GR.act ?_ (by rw[hW];simp[Lu])
     rw[hW,hfs]
     refine GR.put hn hkk hus Z (fun x hx=>(hwd x hx).2) fun hu=>.nil ⟨hst,hok,hi,hu,_,J,KP hwe (N9 (hwe _) hwd),hF.one hf hP hm hc hi2 hrc⟩
  ·rename_i h0
   split at hz
   ·rename_i h1
    split at hz
    ·rename_i hc;exact absurd hz hc
    ·have hz:(End e 1 p a.pid a.yes).e=0:=hz
     obtain⟨hbad,hA⟩:=Wu hz
     have hd:Cw e p a=⟨(End e 1 p a.pid a.yes).part,0,(End e 1 p a.pid a.yes).w,(End e 1 p a.pid a.yes).e⟩:=by unfold Cw;rw[if_neg h0,if_pos h1,if_neg (by simpa using hz)]
     rcases hA with⟨_,hR⟩|⟨k,o,hk,hpid,hR⟩
     ·exact hnil (by rw[hd,hR]) (by rw[hd,hR])
     ·rw[hd,hR]at hst⊢
      simp only at hst⊢
      generalize a.yes=yes at*
      have hcp:=(hP.ok.ook o (List.mem_of_getElem? hk)).1
      have hl8:=Cc hcp
      have hrc:=Ez (l:=o.batches) fun b hb=>(C8 hcp b hb).1
      obtain⟨o1,o2,o3⟩:=Hc hcp
      have ob:=EE hcp
      have hpf:=hP.fin
      have hok:=S6 (e:=e) (yes:=yes) hP.ok hk O
      have hfn:=hF.fin (yes:=yes) hf hP hk
      have hcl:(BC o).length=o.batches.length:=by simp[BC]
      rcases he with rfl|rfl
      ·have hW:PU 0 1 o yes=CX (nmF 0 0) [Kf o yes]++[]:=by rw[List.append_nil];rfl
       have hwd: ∀x∈[Kf o yes],WE x∧B9 x=true:=fun x hx=>by
        rw[List.mem_singleton.1 hx];exact⟨.M _ _ _,OS ob.1 ob.2⟩
       refine GR.act ?_ (by rw[hW];simp[Lu])
       rw[hW,hfs]
       refine GR.put hn h0K hus Z (fun x hx=>(hwd x hx).2) fun hu=>.nil ⟨hst,hok,hi,hu,_,J,KP hwe (N9 (hwe _) hwd),hfn⟩
      ·have hsd:=hF.side J hf hP (List.mem_of_getElem? hk)
       have hW:PU 1 1 o yes=CX (nmF 1 0) (if yes=true then BC o else[Ke o])++[⟨4,nmF 1 o.pid.toNat,[],0⟩]:=by
        rw[Sm (k:=o.pid.toNat) (o:=o.pid) O o1];rfl
       have hwd: ∀x∈(if yes=true then BC o else[Ke o]),WE x∧B9 x=true:=fun x hx=>by
        split at hx
        ·exact YK hcp x hx
        ·rw[List.mem_singleton.1 hx];exact⟨.X _ _ _,OR hcp⟩
       have hne:(if yes=true then BC o else[Ke o])≠[]:=by
        split
        ·exact(Iz hcp).2.1
        ·simp
       have hll:(if yes=true then BC o else[Ke o]).length≤8:=by
        split
        ·omega
        ·simp
       refine GR.act ?_ (by rw[hW,List.length_append,Lu];simp;omega)
       rw[hW,hfs]
       have hfn2:F (Eb 1 p k o yes) (GN (GN es 0 (es 0++(if yes=true then BC o else[Ke o]))) o.pid.toNat []):=hfn
       refine GR.put hn h0K hus hne (fun x hx=>(hwd x hx).2) fun hu=>?_
       refine GR.del hn (by show _<9;omega) hu ?_ fun hu2=>.nil ⟨hst,hok,hi,hu2,_,J,KP (KP hwe (N9 (hwe _) hwd)) (fun x hx=>absurd hx List.not_mem_nil),hfn2⟩
       unfold GN;rw[if_neg O];exact hsd
   ·rename_i h1
    split at hz
    ·rename_i h2
     split at hz
     ·rename_i hc;exact absurd hz hc
     ·have hz:(Cut e 1 p a.to).e=0:=hz
      have hd:Cw e p a=⟨(Cut e 1 p a.to).part,0,(Cut e 1 p a.to).w,(Cut e 1 p a.to).e⟩:=by unfold Cw;rw[if_neg h0,if_neg h1,if_pos h2,if_neg (by simpa using hz)]
      rw[hd]at hst⊢
      unfold Cut at hz hst⊢
      split at hz
      ·simp at hz
      ·rename_i hb
       rw[if_neg hb]at hst⊢
       split at hz
       ·simp at hz
       ·rename_i hin
        rw[if_neg hin]at hst⊢
        simp only at hst⊢
        have k1:p.start≤a.to∧a.to≤p.fin:=by omega
        have b0:=hP.ok.b0;have b2:=hP.ok.b2
        have hwd: ∀x∈[eC a.to],WE x∧B9 x=true:=fun x hx=>by
         rw[List.mem_singleton.1 hx];exact⟨.C _,LP O O⟩
        have hW:CX (DH e 1) [Np a.to]=CX (nmF e 0) [eC a.to]++[]:=by rw[List.append_nil];rfl
        refine GR.act ?_ (by rw[hW];simp[Lu])
        rw[hW,hfs]
        refine GR.put hn h0K hus Z (fun x hx=>(hwd x hx).2) fun hu=>.nil ⟨hst,Aiq hP.ok k1.1 k1.2,hi,hu,_,J,KP hwe (N9 (hwe _) hwd),hF.cut hf hP k1.1 k1.2⟩
    ·rename_i h2
     have hd:Cw e p a=⟨p,0,[],0⟩:=by unfold Cw;rw[if_neg h0,if_neg h1,if_neg h2]
     exact hnil (by rw[hd]) (by rw[hd])
 ·have hP:=hpb hQ
  obtain⟨es,hfs,hwe,hf⟩:=hQ.es
  have hus:=hQ.used
  rw[hfs]at hus⊢
  exact hF.fold hf hP (by have:=Sy (nmF e) (kF e) (fun k=>cE (es k));have:=hn.le;show(Dp _ _ _).length≤64;omega) fun k hk=>Aew hn hk hus (hwe k)
end Go.Proofs.YtpdmaenhenfofaaGreatDoor
namespace Go.Proofs.YtpdmaenhenfofaaGreatDoor
open Go.Am
attribute [local irreducible] Decidable.decide
set_option maxRecDepth 100000
set_option maxHeartbeats 1000000
theorem IK (es:Nat→List Entry) (k:Nat) (l:List Entry):GN es k l k=l:=by simp[GN]
theorem Y5:FsP 0 (fun p es=>F1 Cq (es 0) p):=by
 refine⟨.nil _,fun{p es b} h hP hm hc hi hr=>?_,fun{p es k o yes} h hP hk=>?_,fun{p es n} h hP h1 h2=>?_,fun h=>absurd h Ab,fun{p es fs} h hP hl hf=>?_⟩
 ·have hpl:plK 0 b=0:=by unfold plK;rw[if_neg Z]
  have hok:=Sj hP.ok hm hc hi hr
  have hro:=(Hv (Fl hr)).1
  rw[hpl,IK]
  refine h.snoc hP.gp ?_ (HE hm) hok.b2
  cases ht:b.txn with
  |true=>rw[show Hj p b=Gc p b by simp[Hj,ht]];exact .T b hm hc hi ht hro
  |false=>rw[show Hj p b=Co p b by simp[Hj,ht]];exact .P b hm hc hi ht ((Mr hro).elim id fun e=>by rw[ht]at e;cases e)
 ·have hcp:=(hP.ok.ook o (List.mem_of_getElem? hk)).1
  have hl8:=Cc hcp
  have hrc:=Ez (l:=o.batches) fun b hb=>(C8 hcp b hb).1
  have ob:=EE hcp
  have hpf:=hP.fin
  have hok:=S6 (e:=0) (yes:=yes) hP.ok hk O
  have e1:Nd 0 es o yes 0=es 0++[eM o.pid o.epoch yes]:=by unfold Nd;rw[if_pos J,IK];rfl
  rw[e1]
  exact h.snoc hP.gp (.M k o yes hk) (OS ob.1 ob.2) hok.b2
 ·rw[IK]
  have b0:=hP.ok.b0;have b2:=hP.ok.b2
  exact h.snoc hP.gp (.C n h1 h2) (LP O O) b2
 ·exact Ws fs (es 0) p hl (hf 0 Ab) h
end Go.Proofs.YtpdmaenhenfofaaGreatDoor
namespace Go.Proofs.YtpdmaenhenfofaaGreatDoor
open Go.Am
attribute [local irreducible] Decidable.decide
set_option maxRecDepth 100000
set_option maxHeartbeats 1000000
def lk (l:List Prod) (k:Int):Option Prod:=l.find? (fun p=>decide (p.pid=k))
theorem Je {l:List Prod} (h:BO l=true) (p:Prod) (k:Int):lk (Dt l p) k=if p.pid=k then some p else lk l k:=by
 unfold lk
 rw[IU (Aon.1 h).1,HB (Aon.1 h).1]
theorem N5 {l l':List Prod} {k:Int} (h:lk l' k=lk l k):CK l' k=CK l k∧AX l' k=AX l k:=by
 unfold lk at h
 exact⟨by rw[Fp,Fp,h],by unfold AX;rw[h]⟩
theorem Ahi {l l':List Prod} {b:Batch} (hl:BO l=true) (hl':BO l'=true) (h:lk l' b.pid=lk l b.pid):B4 l' b=B4 l b∧Cl l' b=Cl l b:=by
 obtain⟨h1,h2⟩:=N5 h
 obtain⟨k1,k2,_⟩:=Aex hl hl' h1 h2
 exact⟨k1,k2⟩
theorem Ss {l:List Prod} (h:BO l=true) (x:Prod):x∈l↔lk l x.pid=some x:=
 ⟨fun hx=>GF (Aon.1 h).1 hx J,fun hx=>List.mem_of_find?_eq_some hx⟩
theorem Yc {l l':List Prod} (hl:BO l=true) (hl':BO l'=true) (h: ∀k:Nat,1≤k→k≤8→lk l k=lk l' k):l=l':=by
 have key: ∀{a b:List Prod},BO a=true→BO b=true→(∀k:Nat,1≤k→k≤8→lk a k=lk b k)→ ∀x∈a,x∈b:=fun{a b} ha hb h x hx=>by
  have hk:=Dh ((Aon.1 ha).2 x hx)
  unfold BU at hk
  have:=h x.pid.toNat O O
  rw[show((x.pid.toNat:Nat):Int)=x.pid by omega,(Ss ha x).1 hx]at this
  exact(Ss hb x).2 this.symm
 exact Nw (Aon.1 hl).1 (Aon.1 hl').1 fun x=>⟨key hl hl' h x,key hl' hl (fun k h1 h2=>(h k h1 h2).symm) x⟩
theorem TZ {l:List Prod} (h:BO l=true) (pid k:Int):lk (Cr l pid) k=if pid=k then(lk l k).map (fun q=>{q with seen:=[]})else lk l k:=by
 rw[LZ h]
 cases hh:CK l pid with
 |true=>
  obtain⟨h1,h2⟩:=FE hh
  have h3:lk l pid=some (AX l pid):=by have:=(Ss h _).1 h1;rwa[h2]at this
  rw[if_pos J,Je h]
  show(if(AX l pid).pid=k then _ else _)=_
  rw[h2]
  split
  ·rename_i e;subst e;rw[h3];rfl
  ·rfl
 |false=>
  rw[if_neg Z]
  split
  ·rename_i e;subst e
   have:lk l pid=none:=by rw[Fp]at hh;simpa[lk]using hh
   rw[this];rfl
  ·rfl
inductive CH:List Prod→List Batch→List Prod→Prop
 |nil (l:List Prod):CH l [] l
 |cons {l r:List Prod} {b:Batch} {bs:List Batch} (hb:A1 b=true) (hc:B4 l b=0) (hi:Cl l b=false) (t:CH (Dt l (Bx l b (-1))) bs r):CH l (b::bs) r
theorem m1: -1≤(-1:Int)∧(-1:Int)≤1048576:=⟨by omega,by omega⟩
theorem CH.may {l r:List Prod} {bs:List Batch} (h:CH l bs r) (hl:BO l=true):BO r=true:=by
 induction h with
 |nil l=>exact hl
 |cons hb hc hi _ ih=>exact ih (H1 hl (Jf hl hb hc hi m1))
theorem CH.other {l r:List Prod} {bs:List Batch} {k j:Int} (h:CH l bs r) (hl:BO l=true) (hp: ∀b∈bs,b.pid=k) (hj:j≠k):lk r j=lk l j:=by
 induction h with
 |nil l=>rfl
 | @cons l r b bs hb hc hi _ ih=>
  rw[ih (H1 hl (Jf hl hb hc hi m1)) fun x hx=>hp x (by simp[hx]),Je hl,if_neg]
  have:=hp b Z
  show ¬b.pid=j
  omega
theorem CH.snoc {l r:List Prod} {bs:List Batch} {b:Batch} (h:CH l bs r) (hb:A1 b=true) (hc:B4 r b=0) (hi:Cl r b=false):CH l (bs++[b]) (Dt r (Bx r b (-1))):=by
 induction h with
 |nil l=>exact .cons hb hc hi (.nil _)
 |cons hb1 hc1 hi1 _ ih=>exact .cons hb1 hc1 hi1 (ih hc hi)
theorem CH.move {l r:List Prod} {bs:List Batch} {k:Int} (h:CH l bs r) (hl:BO l=true) (hp: ∀b∈bs,b.pid=k): ∀{q:List Prod},BO q=true→lk q k=lk l k→ ∃s,CH q bs s∧lk s k=lk r k:=by
 induction h with
 |nil l=>exact fun{q} _ e=>⟨q,.nil q,e⟩
 | @cons l r b bs hb hc hi _ ih=>
  intro q hq e
  have hbk:=hp b Z
  rw[←hbk]at e
  obtain⟨k1,k2⟩:=Ahi hl hq e
  have kt:=MK (base:= -1) (N5 e).2
  have hcq:B4 q b=0:=by rw[k1];exact hc
  have hiq:Cl q b=false:=by rw[k2];exact hi
  have e2:lk (Dt q (Bx q b (-1))) k=lk (Dt l (Bx l b (-1))) k:=by
   rw[Je hq,Je hl,kt]
   have:(Bx l b (-1)).pid=k:=hbk
   rw[if_pos this,if_pos this]
  obtain⟨s,hs,es⟩:=ih (H1 hl (Jf hl hb hc hi m1)) (fun x hx=>hp x (by simp[hx])) (H1 hq (Jf hq hb hcq hiq m1)) e2
  exact⟨s,.cons hb hcq hiq hs,es⟩
def PL (l r:List Prod) (k:Int):Prop:=CK l k=true→CK r k=true∧((AX l k).epoch<(AX r k).epoch∨((AX l k).epoch=(AX r k).epoch∧(AX l k).next≤(AX r k).next))
theorem CH.goes {l r:List Prod} {bs:List Batch} {k:Int} (h:CH l bs r) (hl:BO l=true) (hp: ∀b∈bs,b.pid=k):PL l r k:=by
 induction h with
 |nil l=>exact fun hh=>⟨hh,.inr ⟨J,Int.le_refl _⟩⟩
 | @cons l r b bs hb hc hi _ ih=>
  intro hh
  have hbk:=hp b Z
  have hl2:=H1 hl (Jf hl hb hc hi m1)
  have hf:=HC (p:=Bx l b (-1)) hl k
  rw[if_pos (show(Bx l b (-1)).pid=k from hbk)]at hf
  have hh2:CK (Dt l (Bx l b (-1))) k=true:=by rw[Jh hl];simp[Bx,hbk]
  obtain⟨r1,r2⟩:=ih hl2 (fun x hx=>hp x (by simp[hx])) hh2
  rw[hf]at r2
  refine⟨r1,?_⟩
  have e1:(Bx l b (-1)).epoch=b.epoch:=rfl
  have e2:(Bx l b (-1)).next=Bo b:=rfl
  rw[e1,e2]at r2
  subst hbk
  have hfe: ¬b.epoch<(AX l b.pid).epoch:=fun hlt=>by
   have:CL l b=true:=by simp[CL,hh,hlt]
   rw[(Vi hl hb).1]at hc
   unfold Ee at hc
   rw[if_pos this]at hc
   omega
  by_cases he:(AX l b.pid).epoch=b.epoch
  ·have hs:=Aey hl hb hc hi hh he
   have:Bo b=b.seq+b.recs.length:=rfl
   omega
  ·omega
theorem CH.ta {l r:List Prod} {bs:List Batch} (h:CH l bs r) (hl:BO l=true): ∀{q:Part},q.prods=l→0≤q.fin→q.fin+4*bs.length≤100000→q.rows.length+4*bs.length≤100000→TA q bs ⟨q.start,q.fin+CN bs,q.rows++BN bs q.fin,q.opens,r⟩:=by
 induction h with
 |nil l=>
  rintro⟨s,f,rs,os,ps⟩ e h1 h2 h3
  simp only at e
  subst e
  simp only[CN,BN,List.append_nil]
  have:f+((0:Nat):Int)=f:=by omega
  rw[this]
  exact .nil _
 | @cons l r b bs hb hc hi _ ih=>
  intro q e h1 h2 h3
  subst e
  have hm:=AU hb
  simp only[List.length_cons]at h2 h3
  refine .cons hl hb hc hi h1 O O ?_
  have:=ih (H1 hl (Jf hl hb hc hi m1)) (q:={q with prods:=Dt q.prods (Bx q.prods b (-1)),fin:=q.fin+b.recs.length,rows:=q.rows++BS b q.fin}) J (by simp only;omega) (by simp only;omega) (by simp only[List.length_append,ZE];omega)
  simp only[CN,BN]at this⊢
  rw[List.append_assoc,show q.fin+(b.recs.length:Int)+(CN bs:Int)=q.fin+((b.recs.length+CN bs:Nat):Int)by omega]at this
  exact this
theorem Aou {α:Type} {f:α→Int}: ∀{l:List α} {a n:Int},Srt f l→(∀x∈l,a<f x∧f x≤n)→a≤n→(l.length:Int)≤n-a
 |[],a,n,_,_,h=>by simp;omega
 |x::r,a,n,hs,hb,h=>by
  have h1:=hb x Z
  have hs':=List.pairwise_cons.1 hs
  have:=Aou (l:=r) (a:=f x) (n:=n) hs'.2 (fun y hy=>⟨hs'.1 y hy,(hb y (by simp[hy])).2⟩) h1.2
  rw[List.length_cons];omega
theorem Aos {p:Part} (h:POk p):p.opens.length≤8:=by
 have:=Aou (a:=0) (n:=8) h.osrt (fun o ho=>by have:=EE (h.ook o ho).1;omega) O
 omega
theorem Aot {p:Part} (h:POk p):PG p.opens≤256:=by
 have h1:=V9 (f:=fun o:Opn=>PH o.batches) (c:=32) (l:=p.opens) fun o ho=>by
  have hc:=(h.ook o ho).1
  have h2:=Cc hc
  have h3:=V9 (f:=fun b:Batch=>b.recs.length) (c:=4) (l:=o.batches) fun b hb=>by have:=AU (C8 hc b hb).1;omega
  show PH o.batches≤32
  unfold PH;omega
 have h2:=Aos h
 have h3:PG p.opens=(p.opens.map (fun o:Opn=>PH o.batches)).sum:=rfl
 omega
theorem Aov {l:List Opn} (hs:Srt Opn.pid l) {o:Opn} (ho:o∈l):Et Opn.pid o l=l:=by
 refine Nw (KV hs) hs fun z=>?_
 rw[H0]
 constructor
 ·rintro(rfl|⟨h,_⟩)
  ·exact ho
  ·exact h
 ·intro hz
  by_cases e:z.pid=o.pid
  ·exact .inl (WY hs hz ho e)
  ·exact .inr ⟨hz,e⟩
def opn (p:Part) (k:Int):Option Opn:=p.opens.find? (fun o=>decide (o.pid=k))
theorem Aow {q:Part} {b:Batch} (g:GP q) (hf:q.fin≤2400) (hb:A1 b=true) (hc:B4 q.prods b=0) (hi:Cl q.prods b=false) (ht:b.txn=true) (hr:GO q b=none):GP (Gc q b):=by
 have hm:=AU hb
 have hs:=Aot g.ok
 have he:FW q b=.nilIface:=by
  unfold FW;rw[hr]
  simp only
  rw[if_neg]
  unfold Abs;omega
 have hok:=Ahr g.ok hb hc hi ht he
 exact⟨hok,g.rows,by have:=Aos hok;omega,g.fin⟩
theorem Ai2 {q:Part} {b:Batch} (hc:B4 q.prods b=0) (hi:Cl q.prods b=false):Gc q b={q with opens:=Et Opn.pid (C1 q.opens b) q.opens,prods:=Dt q.prods (Bx q.prods b (-1))}:=by
 unfold Gc;rw[DT hc hi m1]
theorem CH.ts1 {l r:List Prod} {bs:List Batch} {k ep:Int} (h:CH l bs r) (hp: ∀b∈bs,b.pid=k∧b.epoch=ep∧b.txn=true): ∀{q:Part} {b0:List Batch},q.prods=l→GP q→q.fin≤2400→opn q k=some ⟨k,ep,b0⟩→b0.length+bs.length≤8→TS q bs {q with opens:=Et Opn.pid ⟨k,ep,b0++bs⟩ q.opens,prods:=r}∧GP {q with opens:=Et Opn.pid ⟨k,ep,b0++bs⟩ q.opens,prods:=r}:=by
 induction h with
 |nil l=>
  intro q b0 e g hf ho hl
  have hin:Et Opn.pid ⟨k,ep,b0++[]⟩ q.opens=q.opens:=Aov g.ok.osrt (by rw[List.append_nil];exact List.mem_of_find?_eq_some ho)
  rw[hin,←e]
  exact⟨.nil _,g⟩
 | @cons l r b bs hb hc hi _ ih=>
  intro q b0 e g hf ho hl
  subst e
  obtain⟨p1,p2,p3⟩:=hp b Z
  simp only[List.length_cons]at hl
  have hfd:q.opens.find? (fun o=>decide (o.pid=b.pid))=some ⟨k,ep,b0⟩:=by rw[p1];exact ho
  have hro:GO q b=none:=by
   unfold GO;rw[hfd]
   simp only
   rw[if_neg (by simp[p3]),if_neg (by simp[p2]),if_neg O]
  have hop:C1 q.opens b=⟨k,ep,b0++[b]⟩:=by unfold C1;rw[hfd]
  have g2:=Aow g hf hb hc hi p3 hro
  have hq:=Ai2 hc hi
  rw[hop]at hq
  have hst:=g.ok.osrt
  have:=ih (fun x hx=>hp x (by simp[hx])) (q:=Gc q b) (b0:=b0++[b]) (by rw[hq]) g2 (by rw[hq];exact hf) (by rw[hq];unfold opn;rw[HB hst,if_pos J]) (by simp;omega)
  have hin:Et Opn.pid ⟨k,ep,b0++[b]++bs⟩ (Gc q b).opens=Et Opn.pid ⟨k,ep,b0++b::bs⟩ q.opens:=by
   rw[hq,List.append_assoc]
   exact Aor hst J
  have hex:({Gc q b with opens:=Et Opn.pid ⟨k,ep,b0++[b]++bs⟩ (Gc q b).opens,prods:=r}:Part)={q with opens:=Et Opn.pid ⟨k,ep,b0++b::bs⟩ q.opens,prods:=r}:=by
   rw[hin,hq]
  rw[hex]at this
  exact⟨.cons g hb hc hi p3 hro this.1,this.2⟩
theorem CH.ts {l r:List Prod} {bs:List Batch} {k ep:Int} (h:CH l bs r) (hne:bs≠[]) (hp: ∀b∈bs,b.pid=k∧b.epoch=ep∧b.txn=true) {q:Part} (e:q.prods=l) (g:GP q) (hf:q.fin≤2400) (ho:opn q k=none) (hl:bs.length≤8):TS q bs {q with opens:=Et Opn.pid ⟨k,ep,bs⟩ q.opens,prods:=r}∧GP {q with opens:=Et Opn.pid ⟨k,ep,bs⟩ q.opens,prods:=r}:=by
 cases h with
 |nil=>exact absurd J hne
 |cons hb hc hi t=>
  rename_i b bs
  subst e
  obtain⟨p1,p2,p3⟩:=hp b Z
  have hfd:q.opens.find? (fun o=>decide (o.pid=b.pid))=none:=by rw[p1];exact ho
  have hro:GO q b=none:=by unfold GO;rw[hfd]
  have hop:C1 q.opens b=⟨k,ep,[b]⟩:=by unfold C1;rw[hfd,p1,p2]
  have g2:=Aow g hf hb hc hi p3 hro
  have hq:=Ai2 hc hi
  rw[hop]at hq
  have hst:=g.ok.osrt
  have:=t.ts1 (k:=k) (ep:=ep) (fun x hx=>hp x (by simp[hx])) (q:=Gc q b) (b0:=[b]) (by rw[hq]) g2 (by rw[hq];exact hf) (by rw[hq];unfold opn;rw[HB hst,if_pos J]) (by simp at hl⊢;omega)
  have hin:Et Opn.pid ⟨k,ep,[b]++bs⟩ (Gc q b).opens=Et Opn.pid ⟨k,ep,b::bs⟩ q.opens:=by
   rw[hq]
   exact Aor hst J
  have hex:({Gc q b with opens:=Et Opn.pid ⟨k,ep,[b]++bs⟩ (Gc q b).opens,prods:=r}:Part)={q with opens:=Et Opn.pid ⟨k,ep,b::bs⟩ q.opens,prods:=r}:=by
   rw[hin,hq]
  rw[hex]at this
  exact⟨.cons g hb hc hi p3 hro this.1,this.2⟩
end Go.Proofs.YtpdmaenhenfofaaGreatDoor
namespace Go.Proofs.YtpdmaenhenfofaaGreatDoor
open Go.Am
attribute [local irreducible] Decidable.decide
set_option maxRecDepth 100000
set_option maxHeartbeats 1000000
def AT (m p:Part) (sd:Nat→List Batch) (k:Nat):Prop:=(sd k=[]∧opn p k=none∧lk p.prods k=lk m.prods k)∨ ∃(o:Opn) (l':List Prod),opn p k=some o∧o.batches=sd k∧CH m.prods (sd k) l'∧lk l' k=lk p.prods k
structure BI (m p:Part) (sd:Nat→List Batch):Prop where
 st:m.start=p.start
 fi:m.fin=p.fin
 ro:m.rows=p.rows
 op:m.opens=[]
 may:BO m.prods=true
 ats: ∀k:Nat,1≤k→k≤8→AT m p sd k
theorem BI.mok {m p:Part} {sd:Nat→List Batch} (h:BI m p sd) (hp:POk p):POk m:=
 ⟨by rw[h.st];exact hp.b0,by rw[h.st,h.fi];exact hp.b1,by rw[h.fi];exact hp.b2,by rw[h.ro];exact hp.srt,by rw[h.st,h.fi,h.ro];exact hp.rin,by rw[h.op];exact List.Pairwise.nil,by rw[h.ro];exact hp.rok,h.may,by rw[h.op];intro o ho;exact absurd ho List.not_mem_nil⟩
theorem BI.gp {m p:Part} {sd:Nat→List Batch} (h:BI m p sd) (hp:PB p):GP m:=
 ⟨h.mok hp.ok,by have:=hp.rows;rw[h.ro];omega,by rw[h.op];simp,by have:=hp.fin;rw[h.fi];omega⟩
theorem N0 {p:Part} {k:Int} {o:Opn} (h:opn p k=some o):o∈p.opens∧o.pid=k:=⟨List.mem_of_find?_eq_some h,by simpa using List.find?_some h⟩
theorem ZU {p:Part} (hp:POk p) {k:Int} {o:Opn} (h:opn p k=some o): ∀b∈o.batches,A1 b=true∧b.txn=true∧b.pid=k∧b.epoch=o.epoch:=fun b hb=>by
 obtain⟨h1,h2⟩:=N0 h
 have:=C8 (hp.ook o h1).1 b hb
 rwa[h2]at this
theorem AT.keep {m p m' p':Part} {sd sd':Nat→List Batch} {k:Nat} (h:AT m p sd k) (hp:POk p) (hm:BO m.prods=true) (hm':BO m'.prods=true) (e1:sd' k=sd k) (e2:opn p' k=opn p k) (e3:lk m'.prods k=lk m.prods k) (e4:lk p'.prods k=lk p.prods k):AT m' p' sd' k:=by
 rcases h with⟨h1,h2,h3⟩|⟨o,l',h1,h2,h3,h4⟩
 ·exact .inl ⟨by rw[e1,h1],by rw[e2,h2],by rw[e4,h3,e3]⟩
 ·obtain⟨s,hs,es⟩:=h3.move (k:=(k:Int)) hm (fun b hb=>by rw[←h2]at hb;exact(ZU hp h1 b hb).2.2.1) hm' e3
  exact .inr ⟨o,s,by rw[e2,h1],by rw[e1,h2],by rw[e1];exact hs,by rw[es,h4,e4]⟩
theorem F2.app {p q r:Part} {W V U:Option (List Batch)} {a b:List Entry} (t:F2 p W a q V) (s:F2 q V b r U):F2 p W (a++b) r U:=by
 induction t with
 |nil p W=>exact s
 |cons h hm hs hq _ ih=>exact .cons h hm hs hq (ih s)
theorem OZ {m:Part} {ep k:Int} (hfin:m.fin≤1048576): ∀(l bs0:List Batch),bs0≠[]→(∀b∈bs0++l,A1 b=true∧b.txn=true∧b.pid=k∧b.epoch=ep)→(∀b∈l,B9 (eY b false 0)=true)→(bs0++l).length≤8→F2 m (some bs0) (l.map (fun b=>eY b false 0)) m (some (bs0++l))
 |[],bs0,_,_,_,_=>by rw[List.append_nil];exact .nil _ _
 |b::l,bs0,hne,hall,hmy,hl=>by
  have hb:=hall b Z
  obtain⟨b0,r0,rfl⟩:=List.exists_cons_of_ne_nil hne
  have hb0:=hall b0 Z
  have hbm:=AU hb.1
  have ih:=OZ hfin l (b0::r0++[b]) Z (by rw[List.append_assoc];exact hall) (fun x hx=>hmy x (by simp[hx])) (by rw[List.append_assoc];exact hl)
  rw[List.append_assoc]at ih
  refine .cons (.b b hb.1 (b0::r0) b0 J (by rw[hb0.2.2.2,hb.2.2.2]) ?_ (by simp at hl⊢;omega)) (hmy b Z) ⟨by show b.recs.length≤_;omega,by show(0:Nat)≤_;omega⟩ hfin ih
  show b0.pid=b.pid
  rw[hb0.2.2.1,hb.2.2.1]
theorem YM {o:Opn} {init:List Batch} {b:Batch} (h:o.batches=init++[b]):BC o=init.map (fun b=>eY b false 0)++[eY b true (Bo b)]:=by
 have hl:o.batches.length=init.length+1:=by rw[h];simp
 unfold BC
 rw[h,List.mapIdx_append]
 congr 1
 ·apply List.ext_getElem
  ·simp
  ·intro i h1 h2
   simp only[List.length_mapIdx]at h1
   rw[List.getElem_mapIdx,List.getElem_map]
   unfold Fs
   rw[if_neg O];rfl
 ·simp only[List.mapIdx_cons,List.mapIdx_nil]
  unfold Fs
  rw[if_pos O,h,K5];rfl
theorem YL {m r:Part} {o:Opn} (hcp:BZ o=true) (hT:TA m o.batches r) (hrm:BO r.prods=true) (hm:m.fin≤1048576) (hr:r.fin≤1048576):F2 m none (BC o) {r with prods:=Cr r.prods o.pid} none:=by
 have hall:=C8 hcp
 have hlen:=Cc hcp
 have hmy:=(Iz hcp).1
 rcases List.eq_nil_or_concat o.batches with h|⟨init,b,h⟩
 ·rw[h]at hlen;simp at hlen
 ·have h:o.batches=init++[b]:=by rw[h,List.concat_eq_append]
  rw[YM h]at hmy⊢
  rw[h]at hT hlen
  have hall2: ∀x∈init++[b],A1 x=true∧x.txn=true∧x.pid=o.pid∧x.epoch=o.epoch:=fun x hx=>hall x (by rw[h];exact hx)
  have hb:=hall2 b Z
  have hbm:=AU hb.1
  simp only[List.all_append,Bool.and_eq_true,List.all_eq_true,List.all_cons,List.all_nil,Bool.and_true]at hmy
  obtain⟨hmi,hml⟩:=hmy
  have hsz:(eY b true (Bo b)).b.recs.length≤1000000∧(eY b true (Bo b)).prod.seen.length≤1000000:=⟨by show b.recs.length≤_;omega,by show(0:Nat)≤_;omega⟩
  rw[←hb.2.2.1]
  cases init with
  |nil=>exact .cons (.d b hb.1 hT hrm) hml hsz hr (.nil _ _)
  |cons a t=>
   have ha:=hall2 a Z
   have ham:=AU ha.1
   simp only[List.length_append,List.length_cons,List.length_nil]at hlen
   have hpre:=OZ (m:=m) (ep:=o.epoch) (k:=o.pid) hm t [a] Z (fun x hx=>hall2 x (by simp at hx⊢;rcases hx with rfl|hx<;>simp[*])) (fun x hx=>hmi _ (List.mem_map_of_mem (List.mem_cons_of_mem _ hx))) (by simp;omega)
   rw[List.map_cons,List.cons_append]
   refine .cons (.a a ha.1) (hmi _ (List.mem_map_of_mem (List.mem_cons_self ..))) ⟨by show a.recs.length≤_;omega,by show(0:Nat)≤_;omega⟩ hm (hpre.app ?_)
   refine .cons (.c b hb.1 ([a]++t) a J (by rw[ha.2.2.2,hb.2.2.2]) ?_ (by simp;omega) hT hrm) hml hsz hr (.nil _ _)
   show a.pid=b.pid
   rw[ha.2.2.1,hb.2.2.1]
theorem SS.snoc {p q r:Part} {ss:List (Int×List Batch)} {pid:Int} {bs:List Batch} {b0:Batch} (t:SS p ss q) (h0:bs[0]?=some b0) (hl:bs.length≤8) (hall: ∀b∈bs,b.pid=pid∧b.epoch=b0.epoch) (hT:TS q bs r):SS p (ss++[(pid,bs)]) r:=by
 induction t with
 |nil p=>exact .cons h0 hl hall hT (.nil _)
 |cons a1 a2 a3 a4 _ ih=>exact .cons a1 a2 a3 a4 (ih hT)
theorem SX {m p:Part} {sd:Nat→List Batch} (h:BI m p sd) (hp:PB p): ∀j:Nat,j≤8→ ∃q,SS m (CJ sd j) q∧GP q∧q.start=p.start∧q.fin=p.fin∧q.rows=p.rows∧ ∀i:Nat,1≤i→i≤8→opn q i=(if i≤j then opn p i else none)∧lk q.prods i=(if i≤j then lk p.prods i else lk m.prods i)
 |0,_=>⟨m,.nil _,h.gp hp,h.st,h.fi,h.ro,fun i h1 _=>by
   rw[if_neg O,if_neg O]
   exact⟨by unfold opn;rw[h.op];rfl,J⟩⟩
 |j+1,hj=>by
  obtain⟨q,hS,g,e1,e2,e3,hat⟩:=SX h hp j O
  obtain⟨k1,k2⟩:=hat (j+1) O hj
  rw[if_neg O]at k1 k2
  rcases h.ats (j+1) O hj with⟨h1,h2,h3⟩|⟨o,l',h1,h2,h3,h4⟩
  ·refine⟨q,by rw[EP,if_pos h1,List.append_nil];exact hS,g,e1,e2,e3,fun i i1 i2=>?_⟩
   by_cases hi:i=j+1
   ·subst hi
    rw[if_pos O,if_pos O,h2,h3];exact⟨k1,k2⟩
   ·obtain⟨c1,c2⟩:=hat i i1 i2
    rw[c1,c2]
    by_cases hij:i≤j
    ·rw[if_pos hij,if_pos hij,if_pos O,if_pos O];exact⟨J,J⟩
    ·rw[if_neg hij,if_neg hij,if_neg O,if_neg O];exact⟨J,J⟩
  ·have hps:=ZU hp.ok h1
   obtain⟨om,ok⟩:=N0 h1
   have hcp:=(hp.ok.ook o om).1
   have hlen:=Cc hcp
   rw[h2]at hps hlen
   have hpk: ∀b∈sd (j+1),b.pid=((j+1:Nat):Int):=fun b hb=>(hps b hb).2.2.1
   obtain⟨q',hq,eq⟩:=h3.move h.may hpk g.ok.may k2
   have hne:sd (j+1)≠[]:=fun e=>by rw[e]at hlen;simp at hlen
   have hpf:=hp.fin
   obtain⟨hT,g2⟩:=hq.ts (ep:=o.epoch) hne (fun b hb=>⟨hpk b hb,(hps b hb).2.2.2,(hps b hb).2.1⟩) J g O k1 hlen.2
   have hoe:(⟨((j+1:Nat):Int),o.epoch,sd (j+1)⟩:Opn)=o:=by
    rcases o with⟨pid,ep,bs⟩
    simp only at ok h2
    rw[ok,h2]
   obtain⟨b0,hb0⟩: ∃b0,(sd (j+1))[0]?=some b0:=⟨_,List.getElem?_eq_getElem O⟩
   have hb0m:=hps b0 (List.mem_of_getElem? hb0)
   refine⟨_,by rw[EP,if_neg hne];exact hS.snoc hb0 hlen.2 (fun b hb=>⟨hpk b hb,by rw[(hps b hb).2.2.2,hb0m.2.2.2]⟩) hT,g2,e1,e2,e3,fun i i1 i2=>?_⟩
   have ho2:opn {q with opens:=Et Opn.pid ⟨((j+1:Nat):Int),o.epoch,sd (j+1)⟩ q.opens,prods:=q'} i=if((j+1:Nat):Int)=(i:Int)then some o else opn q i:=by
    rw[hoe]
    show(Et Opn.pid o q.opens).find? _=_
    rw[HB g.ok.osrt,ok];rfl
   rw[ho2]
   by_cases hi:i=j+1
   ·subst hi
    rw[if_pos J,if_pos O,if_pos O]
    exact⟨h1.symm,by rw[←h4,←eq]⟩
   ·rw[if_neg O]
    obtain⟨c1,c2⟩:=hat i i1 i2
    have c3:lk q' i=lk q.prods i:=hq.other g.ok.may hpk O
    rw[c1]
    show _∧lk q' i=_
    rw[c3,c2]
    by_cases hij:i≤j
    ·rw[if_pos hij,if_pos hij,if_pos O,if_pos O];exact⟨J,J⟩
    ·rw[if_neg hij,if_neg hij,if_neg O,if_neg O];exact⟨J,J⟩
theorem Yg {p q:Part} (hp:POk p) (hq:POk q) (h: ∀k:Nat,1≤k→k≤8→opn p k=opn q k):p.opens=q.opens:=by
 have key: ∀{a b:Part},POk a→POk b→(∀k:Nat,1≤k→k≤8→opn a k=opn b k)→ ∀x∈a.opens,x∈b.opens:=fun{a b} ha hb h x hx=>by
  obtain⟨o1,o2,o3⟩:=Hc (ha.ook x hx).1
  have h1:=h x.pid.toNat o2 o3
  rw[o1]at h1
  have h2:opn a x.pid=some x:=GF ha.osrt hx J
  rw[h2]at h1
  exact(N0 h1.symm).1
 exact Nw hp.osrt hq.osrt fun x=>⟨key hp hq h x,key hq hp (fun k h1 h2=>(h k h1 h2).symm) x⟩
theorem Ahw {m p:Part} {sd:Nat→List Batch} (h:BI m p sd) (hp:PB p):SS m (CJ sd 8) p:=by
 obtain⟨q,hS,g,e1,e2,e3,hat⟩:=SX h hp 8 O
 have e4:q.opens=p.opens:=Yg g.ok hp.ok fun k h1 h2=>by rw[(hat k h1 h2).1,if_pos h2]
 have e5:q.prods=p.prods:=Yc g.ok.may hp.ok.may fun k h1 h2=>by rw[(hat k h1 h2).2,if_pos h2]
 have:q=p:=by
  rcases q with⟨a,b,c,d,e⟩
  rcases p with⟨a',b',c',d',e'⟩
  simp only at e1 e2 e3 e4 e5
  subst e1 e2 e3 e4 e5
  rfl
 rw[this]at hS
 exact hS
end Go.Proofs.YtpdmaenhenfofaaGreatDoor
namespace Go.Proofs.YtpdmaenhenfofaaGreatDoor
open Go.Am
attribute [local irreducible] Decidable.decide
set_option maxRecDepth 100000
set_option maxHeartbeats 1000000
structure BQ (p:Part) (es:Nat→List Entry) (m:Part) (sd:Nat→List Batch):Prop where
 f2:F2 Cq none (es 0) m none
 es: ∀k:Nat,1≤k→k≤8→es k=(sd k).map eD
 bi:BI m p sd
def RP (sd:Nat→List Batch) (k:Nat) (l:List Batch):Nat→List Batch:=fun j=>if j=k then l else sd j
theorem KQ (sd:Nat→List Batch) (k:Nat) (l:List Batch):RP sd k l k=l:=by simp[RP]
theorem Nt {sd:Nat→List Batch} {k j:Nat} {l:List Batch} (h:j≠k):RP sd k l j=sd j:=by simp[RP,h]
theorem HS {es:Nat→List Entry} {k j:Nat} {l:List Entry} (h:j≠k):GN es k l j=es j:=by simp[GN,h]
theorem Ae3:BQ Cq (fun _=>[]) Cq (fun _=>[]):=
 ⟨.nil _ _,fun _ _ _=>rfl,J,J,J,J,Xk.may,fun _ _ _=>.inl ⟨J,J,J⟩⟩
theorem Aca {p m:Part} {es:Nat→List Entry} {sd:Nat→List Batch} {b:Batch} (h:BQ p es m sd) (hP:PB p) (hb:A1 b=true) (hc:B4 p.prods b=0) (hi:Cl p.prods b=false) (hr:Hw p b=none) (ht:b.txn=false): ∃m' sd',BQ (Co p b) (GN es 0 (es 0++[eD b])) m' sd':=by
 have hbi:=h.bi
 have hm:=AU hb
 have hbb:=Fv hb
 unfold Cm at hbb
 have hok:POk (Co p b):=TB hP.ok hb hc hi ht (Fl hr)
 have hro:=(Hv (Fl hr)).1
 have hno: ∀o∈p.opens,o.pid≠b.pid:=(Mr hro).elim id fun e=>by rw[ht]at e;cases e
 have hbk:((b.pid.toNat:Nat):Int)=b.pid:=by omega
 have hpf:=hP.fin
 have hp0:=hP.ok.b0;have hp1:=hP.ok.b1
 obtain⟨s1,s2,s3⟩:sd b.pid.toNat=[]∧opn p b.pid.toNat=none∧lk p.prods b.pid.toNat=lk m.prods b.pid.toNat:=by
  rcases hbi.ats b.pid.toNat O O with h|⟨o,l',h1,_⟩
  ·exact h
  ·obtain⟨h2,h3⟩:=N0 h1
   exact absurd (h3.trans hbk) (hno o h2)
 rw[hbk]at s2 s3
 obtain⟨k1,k2⟩:=Ahi hP.ok.may hbi.may s3.symm
 have hcm:B4 m.prods b=0:=by rw[k1];exact hc
 have him:Cl m.prods b=false:=by rw[k2];exact hi
 have hbase: -1≤p.fin∧p.fin≤1048576:=⟨by omega,by omega⟩
 have kt:Bx m.prods b p.fin=Bx p.prods b p.fin:=MK (N5 s3.symm).2
 have qm:(Co m b).prods=Dt m.prods (Bx p.prods b p.fin):=by
  show EM m.prods b m.fin=_
  rw[hbi.fi,DT hcm him hbase,kt]
 have qp:(Co p b).prods=Dt p.prods (Bx p.prods b p.fin):=DT hc hi hbase
 have hmm:BO (Co m b).prods=true:=by
  rw[qm];exact H1 hbi.may (Jf hP.ok.may hb hc hi hbase)
 refine⟨Co m b,sd,?_,fun k h1 h2=>by rw[HS O];exact h.es k h1 h2,hbi.st,?_,?_,hbi.op,hmm,fun j j1 j2=>?_⟩
 ·rw[IK]
  refine h.f2.snoc (.P (hbi.gp hP) b hb hcm him ht (by rw[hbi.op];intro o ho;exact absurd ho List.not_mem_nil)) (HE hb) ⟨by show b.recs.length≤_;omega,by show(0:Nat)≤_;omega⟩ ?_
  show m.fin+(b.recs.length:Int)≤_
  rw[hbi.fi];omega
 ·show m.fin+_=p.fin+_
  rw[hbi.fi]
 ·show m.rows++BS b m.fin=p.rows++BS b p.fin
  rw[hbi.ro,hbi.fi]
 ·by_cases hj:j=b.pid.toNat
  ·subst hj
   refine .inl ⟨s1,by rw[hbk];exact s2,?_⟩
   have ep:(Bx p.prods b p.fin).pid=b.pid:=rfl
   rw[hbk,qp,qm,Je hP.ok.may,Je hbi.may,if_pos ep,if_pos ep]
  ·refine(hbi.ats j j1 j2).keep hP.ok hbi.may hmm J J ?_ ?_
   ·rw[qm,Je hbi.may,if_neg]
    show ¬b.pid=(j:Int)
    omega
   ·rw[qp,Je hP.ok.may,if_neg]
    show ¬b.pid=(j:Int)
    omega
theorem Ais {p m:Part} {es:Nat→List Entry} {sd:Nat→List Batch} {b:Batch} (h:BQ p es m sd) (hP:PB p) (hb:A1 b=true) (hc:B4 p.prods b=0) (hi:Cl p.prods b=false) (ht:b.txn=true): ∃m' sd',BQ (Gc p b) (GN es b.pid.toNat (es b.pid.toNat++[eD b])) m' sd':=by
 have hbi:=h.bi
 have hbb:=Fv hb
 unfold Cm at hbb
 have hbk:((b.pid.toNat:Nat):Int)=b.pid:=by omega
 have hq:=Ai2 hc hi
 have hon: ∀j:Int,opn (Gc p b) j=if b.pid=j then some (C1 p.opens b)else opn p j:=fun j=>by
  rw[hq]
  show(Et Opn.pid (C1 p.opens b) p.opens).find? _=_
  rw[HB hP.ok.osrt,Il];rfl
 have hlk: ∀j:Int,lk (Gc p b).prods j=if b.pid=j then some (Bx p.prods b (-1))else lk p.prods j:=fun j=>by
  rw[hq]
  show lk (Dt p.prods (Bx p.prods b (-1))) j=_
  rw[Je hP.ok.may];rfl
 have hat:=hbi.ats b.pid.toNat O O
 obtain⟨l',hch,hl',hob⟩: ∃l',CH m.prods (sd b.pid.toNat) l'∧lk l' b.pid=lk p.prods b.pid∧(C1 p.opens b).batches=sd b.pid.toNat++[b]:=by
  rcases hat with⟨h1,h2,h3⟩|⟨o,l',h1,h2,h3,h4⟩
  ·rw[hbk]at h2 h3
   refine⟨m.prods,by rw[h1];exact .nil _,h3.symm,?_⟩
   have h2:p.opens.find? (fun o=>decide (o.pid=b.pid))=none:=h2
   unfold C1;rw[h2,h1];rfl
  ·rw[hbk]at h1 h4
   refine⟨l',h3,h4,?_⟩
   have h1:p.opens.find? (fun o=>decide (o.pid=b.pid))=some o:=h1
   unfold C1;rw[h1,←h2]
 have hml:=hch.may hbi.may
 obtain⟨k1,k2⟩:=Ahi hP.ok.may hml hl'
 have hch2:=hch.snoc hb (by rw[k1];exact hc) (by rw[k2];exact hi)
 refine⟨m,RP sd b.pid.toNat (sd b.pid.toNat++[b]),?_,fun k h1 h2=>?_,hbi.st,hbi.fi,hbi.ro,hbi.op,hbi.may,fun j j1 j2=>?_⟩
 ·rw[HS O];exact h.f2
 ·by_cases hk:k=b.pid.toNat
  ·subst hk
   rw[IK,KQ,h.es _ h1 h2,List.map_append];rfl
  ·rw[HS hk,Nt hk];exact h.es k h1 h2
 ·by_cases hj:j=b.pid.toNat
  ·subst hj
   refine .inr ⟨C1 p.opens b,_,?_,by rw[KQ,hob],by rw[KQ];exact hch2,?_⟩
   ·rw[hbk,hon,if_pos J]
   ·have ep:(Bx l' b (-1)).pid=b.pid:=rfl
    rw[hbk,hlk,if_pos J,Je hml,if_pos ep,MK (N5 hl').2]
  ·refine(hbi.ats j j1 j2).keep hP.ok hbi.may hbi.may (Nt hj) ?_ J ?_
   ·rw[hon,if_neg O]
   ·rw[hlk,if_neg O]
theorem Yf {p:Part} (hp:POk p) {i:Nat} {o:Opn} (h:p.opens[i]?=some o) (k:Int):(p.opens.eraseIdx i).find? (fun x=>decide (x.pid=k))=if o.pid=k then none else opn p k:=by
 split
 ·rename_i e
  rw[List.find?_eq_none]
  intro x hx
  have:=(JO hp.osrt h hx).2
  simp;omega
 ·rename_i e
  unfold opn
  have hsp:p.opens=p.opens.take i++o::p.opens.drop (i+1):=by rw[←BE h,List.take_append_drop]
  rw[List.eraseIdx_eq_take_drop_succ]
  conv=>rhs;rw[hsp]
  rw[List.find?_append,List.find?_append,List.find?_cons_of_neg (by simpa using e)]
theorem Ait {p m:Part} {es:Nat→List Entry} {sd:Nat→List Batch} {i:Nat} {o:Opn} {yes:Bool} (h:BQ p es m sd) (hP:PB p) (hk:p.opens[i]?=some o): ∃m' sd',BQ (Eb 1 p i o yes) (Nd 1 es o yes) m' sd':=by
 have hbi:=h.bi
 have hom:=List.mem_of_getElem? hk
 have hoo:=hP.ok.ook o hom
 have hcp:=hoo.1
 have hlen:=Cc hcp
 have hall:=C8 hcp
 have hob:=EE hcp
 have hrc:=Ez (l:=o.batches) fun b hb=>(hall b hb).1
 obtain⟨o1,o2,o3⟩:=Hc hcp
 have hpf:=hP.fin
 have hpr:=hP.rows
 have hp0:=hP.ok.b0;have hp1:=hP.ok.b1
 have hopn:opn p o.pid=some o:=GF hP.ok.osrt hom J
 obtain⟨l',hsd,hch,hl'⟩: ∃l',o.batches=sd o.pid.toNat∧CH m.prods o.batches l'∧lk l' o.pid=lk p.prods o.pid:=by
  rcases hbi.ats o.pid.toNat o2 o3 with⟨_,h2,_⟩|⟨x,l',h1,h2,h3,h4⟩
  ·rw[o1,hopn]at h2;cases h2
  ·rw[o1,hopn]at h1
   rw[o1]at h4
   cases h1
   exact⟨l',h2,by rw[h2];exact h3,h4⟩
 have hml:=hch.may hbi.may
 have hpk: ∀b∈o.batches,b.pid=o.pid:=fun b hb=>(hall b hb).2.2.1
 have hon: ∀j:Int,opn (Eb 1 p i o yes) j=if o.pid=j then none else opn p j:=fun j=>Yf hP.ok hk j
 have hlp: ∀j:Int,lk (Eb 1 p i o yes).prods j=if o.pid=j then(lk p.prods j).map (fun q=>{q with seen:=[]})else lk p.prods j:=fun j=>TZ hP.ok.may o.pid j
 have hes0:Nd 1 es o yes 0=es 0++(if yes=true then BC o else[Ke o]):=by
  unfold Nd
  rw[if_neg Ab,HS O,IK]
 have hesk: ∀k:Nat,1≤k→k≤8→Nd 1 es o yes k=(RP sd o.pid.toNat [] k).map eD:=fun k k1 k2=>by
  unfold Nd
  rw[if_neg Ab]
  by_cases hk:k=o.pid.toNat
  ·subst hk
   rw[IK,KQ];rfl
  ·rw[HS hk,Nt hk,HS O];exact h.es k k1 k2
 have hrest: ∀m':Part,m'.start=m.start→m'.fin=(Eb 1 p i o yes).fin→m'.rows=(Eb 1 p i o yes).rows→m'.opens=[]→BO m'.prods=true→(∀j:Int,lk m'.prods j=if o.pid=j then(lk p.prods j).map (fun q=>{q with seen:=[]})else lk m.prods j)→BI m' (Eb 1 p i o yes) (RP sd o.pid.toNat []):=fun m' a1 a2 a3 a4 a5 a6=>by
  refine⟨a1.trans hbi.st,a2,a3,a4,a5,fun j j1 j2=>?_⟩
  by_cases hj:j=o.pid.toNat
  ·subst hj
   refine .inl ⟨KQ ..,?_,?_⟩
   ·rw[o1,hon,if_pos J]
   ·rw[o1,hlp,a6,if_pos J,if_pos J]
  ·refine(hbi.ats j j1 j2).keep hP.ok hbi.may a5 (Nt hj) ?_ ?_ ?_
   ·rw[hon,if_neg O]
   ·rw[a6,if_neg O]
   ·rw[hlp,if_neg O]
 cases yes with
 |true=>
  have hT:=hch.ta hbi.may (q:=m) J (by rw[hbi.fi];omega) (by rw[hbi.fi];omega) (by rw[hbi.ro];omega)
  have hF:=YL hcp hT hml (by rw[hbi.fi];omega) (by simp only[hbi.fi];omega)
  refine⟨_,RP sd o.pid.toNat [],?_,hesk,hrest {(⟨m.start,m.fin+CN o.batches,m.rows++BN o.batches m.fin,m.opens,l'⟩:Part)with prods:=Cr l' o.pid} rfl ?_ ?_ hbi.op (RC hml _) fun j=>?_⟩
  ·rw[hes0,if_pos J]
   exact h.f2.app hF
  ·show m.fin+(CN o.batches:Int)=p.fin+CN o.batches+0
   rw[hbi.fi,Int.add_zero]
  ·show m.rows++BN o.batches m.fin=p.rows++BN o.batches p.fin
   rw[hbi.ro,hbi.fi]
  ·show lk (Cr l' o.pid) j=_
   rw[TZ hml]
   split
   ·rename_i e;subst e;rw[hl']
   ·rename_i e
    exact hch.other hbi.may hpk O
 |false=>
  obtain⟨h1,h2,h3⟩:=hoo.2
  have hlb:=Iq hcp
  have hkn:C2 ⟨o.pid,o.epoch,D3 o.batches,[]⟩=true:=by
   have:BU ⟨o.pid,o.epoch,D3 o.batches,[]⟩:=by unfold BU;simp only[List.length_nil];omega
   simp[C2,this,B5]
  have hpl:=hch.goes hbi.may hpk
  obtain⟨g1,g2⟩:=N5 hl'
  have hX:N2 m none (eX o.pid o.epoch (D3 o.batches)) (UV m o.pid o.epoch (D3 o.batches)) none:=.X o.pid o.epoch (D3 o.batches) hbi.may fun hh=>by
   have:=(hpl hh).2
   rw[g2,h2,h3]at this
   exact this
  have hlkp:lk p.prods o.pid=some (AX p.prods o.pid):=by
   obtain⟨y1,y2⟩:=FE h1
   have:=(Ss hP.ok.may _).1 y1
   rwa[y2]at this
  refine⟨_,RP sd o.pid.toNat [],?_,hesk,hrest (UV m o.pid o.epoch (D3 o.batches)) J ?_ ?_ hbi.op (H1 hbi.may hkn) fun j=>?_⟩
  ·rw[hes0,if_neg Z]
   exact h.f2.snoc hX (OR hcp) ⟨by show(0:Nat)≤_;omega,by show(0:Nat)≤_;omega⟩ (by show m.fin≤_;rw[hbi.fi];omega)
  ·show m.fin=p.fin+0
   rw[hbi.fi,Int.add_zero]
  ·exact hbi.ro
  ·show lk (Dt m.prods ⟨o.pid,o.epoch,D3 o.batches,[]⟩) j=_
   rw[Je hbi.may]
   show(if o.pid=j then _ else _)=_
   split
   ·rename_i e;subst e
    rw[hlkp]
    have hpid:=(FE h1).2
    simp only[Option.map_some]
    rw[hpid,h2,h3]
   ·rfl
theorem YR:FsP 1 (fun p es=> ∃m sd,BQ p es m sd):=by
 refine⟨⟨_,_,Ae3⟩,fun{p es b} ⟨m,sd,h⟩ hP hb hc hi hr=>?_,fun{p es k o yes} ⟨m,sd,h⟩ hP hk=>Ait h hP hk,fun{p es n} ⟨m,sd,h⟩ hP h1 h2=>?_,fun{p es o} _ ⟨m,sd,h⟩ hP ho=>?_,fun{p es fs} ⟨m,sd,h⟩ hP hl hf=>?_⟩
 ·cases ht:b.txn with
  |true=>
   rw[show Hj p b=Gc p b by simp[Hj,ht],show plK 1 b=b.pid.toNat by simp[plK,ht]]
   exact Ais h hP hb hc hi ht
  |false=>
   rw[show Hj p b=Co p b by simp[Hj,ht],show plK 1 b=0 by simp[plK,ht]]
   exact Aca h hP hb hc hi hr ht
 ·have hbi:=h.bi
  have b0:=hP.ok.b0;have b2:=hP.ok.b2
  refine⟨LW m n,sd,?_,fun k k1 k2=>by rw[HS O];exact h.es k k1 k2,J,hbi.fi,?_,hbi.op,hbi.may,hbi.ats⟩
  ·rw[IK]
   exact h.f2.snoc (.C (hbi.gp hP) n (by rw[hbi.st];exact h1) (by rw[hbi.fi];exact h2)) (LP O O) ⟨by show(0:Nat)≤_;omega,by show(0:Nat)≤_;omega⟩ (by show m.fin≤_;rw[hbi.fi];exact b2)
  ·show m.rows.filter _=p.rows.filter _
   rw[hbi.ro]
 ·have hcp:=(hP.ok.ook o ho).1
  have hlen:=Cc hcp
  obtain⟨o1,o2,o3⟩:=Hc hcp
  have hopn:opn p o.pid=some o:=GF hP.ok.osrt ho J
  rcases h.bi.ats o.pid.toNat o2 o3 with⟨_,h2,_⟩|⟨x,l',h1,h2,_⟩
  ·rw[o1,hopn]at h2;cases h2
  ·rw[o1,hopn]at h1
   cases h1
   rw[h.es _ o2 o3,←h2]
   intro e
   have:=congrArg List.length e
   simp only[List.length_map,List.length_nil]at this
   omega
 ·refine Wq fs (es 0) sd m p hl (hf 0 Ab) (fun k k1 k2=>?_) h.f2 (Ahw h.bi hP)
  have:=hf k (by show k<9;omega)
  rw[Sm O J,h.es k k1 k2]at this
  exact this
end Go.Proofs.YtpdmaenhenfofaaGreatDoor
namespace Go.Proofs.YtpdmaenhenfofaaGreatDoor
open Go.Am
attribute [local irreducible] Decidable.decide
set_option maxRecDepth 100000
set_option maxHeartbeats 1000000
theorem Abj (tag:Int) (l:List Act2):Ct Tryz.prog 8 [.t (.int .i8 tag),.t (.slice .any 9 (l.map E9))] [] (.t (.bool true)) []:=by
 cases hg:DP l with
 |true=>
  have cg:=K8 l
  rw[hg]at cg
  refine ct0 Ac Tryz.func8 J false J J ?_
  repeat'(first|refine Ae Ac J J J ?_|refine Ag ?_|refine Ah ?_|refine Ai Ac J J ?_|(refine AP J J J J J (ht:=fun h=>?_) (hf:=fun h=>?_)<;>try exact prn)|refine Gz J J J J J ?_|(refine Af J (ht:=fun h=>?_) (hf:=fun h=>?_)<;>try exact prn)|refine Ar ?_|refine Ak Ac J J J J J J J (cg) J J ?_|refine Ak Ac J J J J J J J (KL) J J ?_)
  all_goals exact Au J (Sub.of_eq J)
 |false=>
  by_cases ht:tag=0∨tag=1
  ·rcases ht with rfl|rfl
   ·exact OH 0 l _ (.inl J) hg (Ry (.inl J) Y5 hg)
   ·exact OH 1 l _ (.inr J) hg (Ry (.inr J) YR hg)
  ·have cg:=K8 l
   rw[hg]at cg
   refine ct0 Ac Tryz.func8 J false J J ?_
   repeat'(first|refine Ae Ac J J J ?_|refine Ag ?_|refine Ah ?_|refine Ai Ac J J ?_|(refine AZ J J J J J (ht:=fun h=>?_) (hf:=fun h=>?_)<;>try exact prn)|(refine AP J J J J J (ht:=fun h=>?_) (hf:=fun h=>?_)<;>try exact prn)|(refine Af J (ht:=fun h=>?_) (hf:=fun h=>?_)<;>try exact prn)|refine Ar ?_|refine Ak Ac J J J J J J J (cg) J J ?_|refine Ak Ac J J J J J J J (KL) J J ?_)
   all_goals first|(exfalso;simp_all;done)|(exfalso;omega)|exact Au J (Sub.of_eq J)
end Go.Proofs.YtpdmaenhenfofaaGreatDoor
