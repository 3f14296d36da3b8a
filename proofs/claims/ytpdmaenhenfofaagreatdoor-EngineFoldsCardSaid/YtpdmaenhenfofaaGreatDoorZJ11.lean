/- Contracts and laws, joined: La, Lb, Qo, Qp, Qr, Qs, Lc. No condition beside those that each theorem names. -/
import Derived.Test.YtpdmaenhenfofaaGreatDoorZM10
import Derived.Test.YtpdmaenhenfofaaGreatDoorZJ10
import Derived.Test.YtpdmaenhenfofaaGreatDoorZM11
set_option linter.unusedVariables false
set_option linter.unusedSimpArgs false
namespace Go.Proofs.YtpdmaenhenfofaaGreatDoor
open Go.Am
attribute [local irreducible] Decidable.decide
set_option maxRecDepth 100000
set_option maxHeartbeats 1000000
def Srt {α:Type} (f:α→Int) (l:List α):Prop:=l.Pairwise (fun x y=>f x<f y)
def Et {α:Type} (f:α→Int) (x:α) (l:List α):List α:=l.filter (fun y=>decide (f y<f x))++x::l.filter (fun y=>decide (f x<f y))
theorem Aoq {α:Type} {f:α→Int} {l:List α}:Srt f l↔(l.map f).Pairwise (· < ·):=by rw[List.pairwise_map];rfl
theorem Nw {α:Type} {f:α→Int}: ∀{l m:List α},Srt f l→Srt f m→(∀x,x∈l↔x∈m)→l=m
 |[],[],_,_,_=>rfl
 |[],y::m,_,_,h=>by have:=(h y).2 Z;simp at this
 |x::l,[],_,_,h=>by have:=(h x).1 Z;simp at this
 |x::l,y::m,hl,hm,h=>by
  have hl':=List.pairwise_cons.1 hl
  have hm':=List.pairwise_cons.1 hm
  have e:x=y:=by
   have h1:=(h x).1 Z
   have h2:=(h y).2 Z
   rcases List.mem_cons.1 h1 with e|h1
   ·exact e
   rcases List.mem_cons.1 h2 with e|h2
   ·exact e.symm
   have:=hl'.1 y h2;have:=hm'.1 x h1;omega
  subst e
  congr 1
  refine Nw hl'.2 hm'.2 fun z=>⟨fun hz=>?_,fun hz=>?_⟩
  ·have hlt:=hl'.1 z hz
   rcases List.mem_cons.1 ((h z).1 (by simp[hz]))with e|h1
   ·subst e;omega
   ·exact h1
  ·have hlt:=hm'.1 z hz
   rcases List.mem_cons.1 ((h z).2 (by simp[hz]))with e|h1
   ·subst e;omega
   ·exact h1
theorem WY {α:Type} {f:α→Int}: ∀{l:List α},Srt f l→ ∀{x y:α},x∈l→y∈l→f x=f y→x=y
 |z::l,h,x,y,hx,hy,e=>by
  have h':=List.pairwise_cons.1 h
  rcases List.mem_cons.1 hx with e1|h1<;>rcases List.mem_cons.1 hy with e2|h2
  ·rw[e1,e2]
  ·subst e1;have:=h'.1 y h2;omega
  ·subst e2;have:=h'.1 x h1;omega
  ·exact WY h'.2 h1 h2 e
theorem GF {α:Type} {f:α→Int} {l:List α} (h:Srt f l) {k:Int} {x:α} (hx:x∈l) (hk:f x=k):l.find? (fun y=>decide (f y=k))=some x:=by
 cases hf:l.find? (fun y=>decide (f y=k))with
 |none=>have:=List.find?_eq_none.1 hf x hx;simp[hk]at this
 |some y=>
  have h1:=List.find?_some hf
  have h2:=List.mem_of_find?_eq_some hf
  rw[WY h h2 hx (by simpa[hk]using h1)]
theorem Xw {α:Type} {f:α→Int} {l:List α} {k:Int} (h: ∀x∈l,f x≠k):l.find? (fun y=>decide (f y=k))=none:=by
 rw[List.find?_eq_none];intro x hx;simpa using h x hx
theorem H0 {α:Type} {f:α→Int} {x z:α} {l:List α}:z∈Et f x l↔z=x∨(z∈l∧f z≠f x):=by
 simp only[Et,List.mem_append,List.mem_cons,List.mem_filter,decide_eq_true_eq]
 constructor
 ·rintro(⟨h1,h2⟩|rfl|⟨h1,h2⟩)
  ·exact .inr ⟨h1,by omega⟩
  ·exact .inl J
  ·exact .inr ⟨h1,by omega⟩
 ·rintro(rfl|⟨h1,h2⟩)
  ·exact .inr (.inl J)
  ·rcases Int.lt_or_gt_of_ne h2 with h3|h3
   ·exact .inl ⟨h1,h3⟩
   ·exact .inr (.inr ⟨h1,h3⟩)
theorem KV {α:Type} {f:α→Int} {x:α} {l:List α} (h:Srt f l):Srt f (Et f x l):=by
 unfold Et Srt
 rw[List.pairwise_append,List.pairwise_cons]
 refine⟨h.filter _,⟨fun y hy=>by simpa using(List.mem_filter.1 hy).2,h.filter _⟩,fun a ha b hb=>?_⟩
 have h1:f a<f x:=by simpa using(List.mem_filter.1 ha).2
 rcases List.mem_cons.1 hb with rfl|hb
 ·exact h1
 ·have h2:f x<f b:=by simpa using(List.mem_filter.1 hb).2
  omega
theorem HB {α:Type} {f:α→Int} {x:α} {l:List α} (h:Srt f l) (k:Int):(Et f x l).find? (fun y=>decide (f y=k))=if f x=k then some x else l.find? (fun y=>decide (f y=k)):=by
 have hs:=KV (x:=x) h
 split
 ·rename_i e;exact GF hs (H0.2 (.inl J)) e
 ·rename_i e
  cases hf:l.find? (fun y=>decide (f y=k))with
  |none=>
   refine Xw fun z hz=>?_
   rcases H0.1 hz with rfl|⟨h1,h2⟩
   ·exact e
   ·have:=List.find?_eq_none.1 hf z h1;simpa using this
  |some y=>
   have h1:f y=k:=by simpa using List.find?_some hf
   exact GF hs (H0.2 (.inr ⟨List.mem_of_find?_eq_some hf,by omega⟩)) h1
theorem Aor {α:Type} {f:α→Int} {x y:α} {l:List α} (h:Srt f l) (he:f x=f y):Et f x (Et f y l)=Et f x l:=by
 refine Nw (KV (KV h)) (KV h) fun z=>?_
 simp only[H0]
 constructor
 ·rintro(rfl|⟨rfl|⟨h1,h2⟩,h3⟩)
  ·exact .inl J
  ·exact absurd he.symm h3
  ·exact .inr ⟨h1,h3⟩
 ·rintro(rfl|⟨h1,h2⟩)
  ·exact .inl J
  ·exact .inr ⟨.inr ⟨h1,by omega⟩,h2⟩
theorem Gj {α:Type} {f:α→Int} {k:Int} {a b:List α} (ha: ∀x∈a,f x<k) (hb: ∀x∈b,k≤f x):(a++b).filter (fun y=>decide (f y<k))=a∧(a++b).filter (fun y=>decide (k<f y))=b.filter (fun y=>decide (k<f y)):=by
 constructor
 ·rw[List.filter_append,List.filter_eq_self.2 (fun x hx=>by simpa using ha x hx),List.filter_eq_nil_iff.2 (fun x hx=>by have:=hb x hx;simp;omega),List.append_nil]
 ·rw[List.filter_append,List.filter_eq_nil_iff.2 (fun x hx=>by have:=ha x hx;simp;omega),List.nil_append]
theorem WT {α:Type} {f:α→Int} {l:List α} {k:Int} {i:Nat} (h:l.findIdx? (fun y=>decide (f y≥k))=some i):(∀y∈l.take i,f y<k)∧ ∃x,l[i]?=some x∧k≤f x:=by
 obtain⟨hlt,h1,h2⟩:=List.findIdx?_eq_some_iff_getElem.1 h
 refine⟨fun y hy=>?_,l[i],List.getElem?_eq_getElem hlt,by simpa using h1⟩
 obtain⟨j,hj,rfl⟩:=List.mem_take_iff_getElem.1 hy
 have:=h2 j O
 simp at this;omega
theorem IU {l:List Prod} (h:Srt Prod.pid l) (p:Prod):Dt l p=Et Prod.pid p l:=by
 unfold Dt
 cases hf:l.findIdx? (fun x=>decide (x.pid≥p.pid))with
 |none=>
  have hn: ∀x∈l,x.pid<p.pid:=fun x hx=>by have:=List.findIdx?_eq_none_iff.1 hf x hx;simp at this;omega
  simp only[Oe,List.take_length,List.drop_length,Et]
  rw[List.filter_eq_self.2 (fun x hx=>by simpa using hn x hx),List.filter_eq_nil_iff.2 (fun x hx=>by have:=hn x hx;simp;omega)]
 |some i=>
  obtain⟨h1,x,hx,h2⟩:=WT hf
  have hd:=BE hx
  have hsp:l=l.take i++l.drop i:=(List.take_append_drop i l).symm
  have hs2:Srt Prod.pid (x::l.drop (i+1)):=by rw[←hd];exact List.Pairwise.sublist (List.drop_sublist i l) h
  have hs3:=(List.pairwise_cons.1 hs2).1
  have hb: ∀y∈l.drop i,p.pid≤y.pid:=fun y hy=>by
   rw[hd]at hy
   rcases List.mem_cons.1 hy with rfl|hy
   ·exact h2
   ·have:=hs3 y hy;omega
  obtain⟨q1,q2⟩:=Gj (f:=Prod.pid) h1 hb
  rw[←hsp]at q1 q2
  have hall:(l.drop (i+1)).filter (fun y=>decide (p.pid<y.pid))=l.drop (i+1):=List.filter_eq_self.2 fun y hy=>by have:=hs3 y hy;simp;omega
  simp only[hx,Option.map_some,Option.some.injEq,Oe,Et]
  rw[q1,q2,hd,List.filter_cons,hall]
  by_cases e:x.pid=p.pid
  ·have: ¬p.pid<x.pid:=by omega
   simp[e]
  ·have:p.pid<x.pid:=by omega
   simp[e,this]
theorem Aop: ∀{l:List Prod} {n:Int},JH n l=true↔(∀p∈l,n<p.pid)∧Srt Prod.pid l∧ ∀p∈l,C2 p=true
 |[],n=>by simp[JH,Srt]
 |p::r,n=>by
  simp only[JH,Bool.and_eq_true,decide_eq_true_eq,Aop (l:=r),List.mem_cons,Srt,List.pairwise_cons]
  constructor
  ·rintro⟨⟨h1,h2⟩,h3,h4,h5⟩
   exact⟨fun q hq=>hq.elim (fun e=>e▸h1) (fun hq=>by have:=h3 q hq;omega),⟨h3,h4⟩,fun q hq=>hq.elim (fun e=>e▸h2) (h5 q)⟩
  ·rintro⟨h1,⟨h3,h4⟩,h5⟩
   exact⟨⟨h1 p (.inl J),h5 p (.inl J)⟩,h3,h4,fun q hq=>h5 q (.inr hq)⟩
theorem Dh {p:Prod} (h:C2 p=true):BU p:=by simp only[C2,Bool.and_eq_true,decide_eq_true_eq]at h;exact h.1
theorem Aon {l:List Prod}:BO l=true↔Srt Prod.pid l∧ ∀p∈l,C2 p=true:=by
 unfold BO
 rw[Aop]
 exact⟨fun h=>h.2,fun h=>⟨fun p hp=>by have:=Dh (h.2 p hp);unfold BU at this;omega,h⟩⟩
theorem H1 {l:List Prod} {p:Prod} (h:BO l=true) (hp:C2 p=true):BO (Dt l p)=true:=by
 obtain⟨h1,h2⟩:=Aon.1 h
 rw[IU h1]
 refine Aon.2 ⟨KV h1,fun q hq=>?_⟩
 rcases H0.1 hq with rfl|⟨h3,_⟩
 ·exact hp
 ·exact h2 q h3
theorem HC {l:List Prod} {p:Prod} (h:BO l=true) (k:Int):AX (Dt l p) k=if p.pid=k then p else AX l k:=by
 unfold AX
 rw[IU (Aon.1 h).1,HB (Aon.1 h).1]
 split<;>rfl
theorem Fp {l:List Prod} {k:Int}:CK l k=(l.find? (fun p=>decide (p.pid=k))).isSome:=by
 unfold CK;rw[Bool.eq_iff_iff,List.find?_isSome,List.any_eq_true]
theorem Jh {l:List Prod} {p:Prod} (h:BO l=true) (k:Int):CK (Dt l p) k=(decide (p.pid=k)||CK l k):=by
 rw[Fp,Fp,IU (Aon.1 h).1,HB (Aon.1 h).1]
 split<;>simp[*]
theorem FE {l:List Prod} {k:Int} (h:CK l k=true):AX l k∈l∧(AX l k).pid=k:=by
 rw[Fp]at h
 obtain⟨x,hx⟩:=Option.isSome_iff_exists.1 h
 have h1:AX l k=x:=by simp[AX,hx]
 rw[h1]
 exact⟨List.mem_of_find?_eq_some hx,by simpa using List.find?_some hx⟩
theorem O9 {l:List Prod} {k:Int} (h:CK l k=false):AX l k=CZ:=by
 rw[Fp]at h
 have:l.find? (fun p=>decide (p.pid=k))=none:=by simpa using h
 simp[AX,this]
theorem Vt {s:Seen} {n:Int}: ∀{r:List Seen},CE n (r++[s])=CE s.seq r
 |[]=>rfl
 |_::_=>rfl
theorem Py {s:Seen} {n:Int} (hs:Cp s) (hn:n=s.seq+s.count): ∀{l:List Seen},B5 s.seq l=true→B5 n (l++[s])=true
 |[],_=>by simp[B5,CE,hs,hn]
 |a::r,h=>by
  simp only[B5,Bool.and_eq_true,decide_eq_true_eq,List.cons_append]at h⊢
  exact⟨by rw[Vt];exact h.1,Py hs hn h.2⟩
theorem Vn {n:Int} {l:List Seen} (k:Nat) (h:B5 n l=true):B5 n (l.drop k)=true:=by
 cases hc:B5 n (l.drop k)with
 |true=>rfl
 |false=>rw[I0 hc]at h;cases h
theorem Add {b:Batch} (hb:A1 b=true) {base:Int} (h: -1≤base∧base≤1048576):Cp ⟨b.seq,b.recs.length,base⟩:=by
 have:=AU hb
 unfold Cp;simp only;omega
theorem Fv {b:Batch} (hb:A1 b=true):Cm b:=by simp only[A1,Bool.and_eq_true,decide_eq_true_eq]at hb;exact hb.1
theorem Vi {l:List Prod} {b:Batch} (hl:BO l=true) (hb:A1 b=true):B4 l b=Ee l b∧Cl l b=Hd l b:=by
 simp[B4,Cl,MH,hl,hb]
theorem Wi {l:List Prod} {b:Batch} (hl:BO l=true) (hb:A1 b=true) (hc:B4 l b=0) (hi:Cl l b=false):B5 b.seq (EV l b)=true:=by
 obtain⟨h1,h2⟩:=Vi hl hb
 rw[h1]at hc;rw[h2]at hi
 unfold EV
 split
 ·rfl
 ·rename_i he
  have he:(AX l b.pid).epoch=b.epoch:=Classical.not_not.1 he
  cases hh:CK l b.pid with
  |false=>rw[O9 hh];rfl
  |true=>
   obtain⟨h3,_⟩:=FE hh
   have hk:=(Aon.1 hl).2 _ h3
   have hcur:DR l b=AX l b.pid:=by simp[DR,hh,he]
   have hf:CL l b=false:=by simp[CL,hh,he]
   have ha:(DR l b).seen.any (EG b)=false:=by simpa[Hd,hf]using hi
   have hn:b.seq=(DR l b).next:=by
    unfold Ee at hc
    rw[hf,ha]at hc
    simp at hc
    exact hc
   rw[hcur]at hn
   simp only[C2,Bool.and_eq_true]at hk
   rw[hn];exact hk.2
theorem Jf {l:List Prod} {b:Batch} {base:Int} (hl:BO l=true) (hb:A1 b=true) (hc:B4 l b=0) (hi:Cl l b=false) (hbase: -1≤base∧base≤1048576):C2 (Bx l b base)=true:=by
 have hm:=AU hb
 have hbb:=Fv hb
 unfold Cm at hbb
 have hlen:(Bx l b base).seen.length≤3:=by simp only[Bx,II,List.length_drop];omega
 have hbd:BU (Bx l b base):=by
  refine⟨hbb.1,hbb.2.1,hbb.2.2.1,hbb.2.2.2.1,?_,?_,by omega⟩<;>simp only[Bx,Bo]<;>omega
 have hch:B5 (Bo b) (II (EV l b++[⟨b.seq,b.recs.length,base⟩]))=true:=
  Vn _ (Py (Add hb hbase) J (Wi hl hb hc hi))
 simp only[C2,hbd,decide_true,Bool.true_and]
 exact hch
theorem KR {l:List Prod} {b:Batch} {base:Int} (hc:B4 l b=0) (hi:Cl l b=false) (hbase: -1≤base∧base≤1048576):FU l b base=0:=by
 unfold FU;rw[if_neg O,if_neg O,hi];simp
theorem DT {l:List Prod} {b:Batch} {base:Int} (hc:B4 l b=0) (hi:Cl l b=false) (hbase: -1≤base∧base≤1048576):EM l b base=Dt l (Bx l b base):=by
 unfold EM;rw[KR hc hi hbase];simp
theorem MV {l:List Prod} {b:Batch} {base:Int} (hl:BO l=true) (hb:A1 b=true) (hc:B4 l b=0) (hi:Cl l b=false) (hbase: -1≤base∧base≤1048576):BO (EM l b base)=true:=by
 rw[DT hc hi hbase];exact H1 hl (Jf hl hb hc hi hbase)
end Go.Proofs.YtpdmaenhenfofaaGreatDoor
namespace Go.Proofs.YtpdmaenhenfofaaGreatDoor
open Go.Am
attribute [local irreducible] Decidable.decide
set_option maxRecDepth 100000
set_option maxHeartbeats 1000000
def Co (p:Part) (b:Batch):Part:={p with fin:=p.fin+b.recs.length,rows:=p.rows++BS b p.fin,prods:=EM p.prods b p.fin}
def C1 (l:List Opn) (b:Batch):Opn:=match l.find? (fun o=>decide (o.pid=b.pid))with
 |some o=>{o with batches:=o.batches++[b]}
 |none=>⟨b.pid,b.epoch,[b]⟩
def Gc (p:Part) (b:Batch):Part:={p with opens:=Et Opn.pid (C1 p.opens b) p.opens,prods:=EM p.prods b (-1)}
def Cq:Part:=⟨0,0,[],[],[]⟩
theorem Il {l:List Opn} {b:Batch}:(C1 l b).pid=b.pid:=by
 unfold C1
 split
 ·rename_i o h;simpa using List.find?_some h
 ·rfl
def PE (ps:List Prod) (o:Opn):Prop:=BZ o=true∧CK ps o.pid=true∧(AX ps o.pid).epoch=o.epoch∧(AX ps o.pid).next=D3 o.batches
structure POk (p:Part):Prop where
 b0:0≤p.start
 b1:p.start≤p.fin
 b2:p.fin≤1048576
 srt:Srt Row.offset p.rows
 rin: ∀r∈p.rows,p.start≤r.offset∧r.offset<p.fin
 osrt:Srt Opn.pid p.opens
 rok: ∀r∈p.rows,HZ r=false
 may:BO p.prods=true
 ook: ∀o∈p.opens,PE p.prods o
theorem Cc {o:Opn} (h:BZ o=true):1≤o.batches.length∧o.batches.length≤8:=by
 simp only[BZ,Bool.and_eq_true,decide_eq_true_eq]at h;exact h.1
theorem Aoo {p:Part}:Er p=true↔POk p:=by
 simp only[Er,It,Fm,Bool.and_eq_true,decide_eq_true_eq,Bool.not_eq_true',ER,List.all_eq_true,List.any_eq_false,ET,Xh]
 constructor
 ·rintro⟨⟨⟨⟨h0,h1,h2⟩,h3,h4,h5,h6⟩,h7,h8⟩,h9⟩
  exact⟨h0,h1,h2,Aoq.2 h3,h4,Aoq.2 h5,fun r hr=>by simpa using h7 r hr,h8,fun o ho=>h9 o ho⟩
 ·rintro⟨h0,h1,h2,h3,h4,h5,h7,h8,h9⟩
  refine⟨⟨⟨⟨h0,h1,h2⟩,Aoq.1 h3,h4,Aoq.1 h5,fun o ho=>?_⟩,fun r hr=>by simpa using h7 r hr,h8⟩,fun o ho=>h9 o ho⟩
  have:=(Cc (h9 o ho).1).1
  intro he
  rw[List.isEmpty_iff]at he
  simp[he]at this
theorem Lp {b:Batch} {off:Int} {r:Row} (h:r∈BS b off): ∃(i:Nat) (x:Rec),b.recs[i]?=some x∧r=FA b off i x:=by
 obtain⟨i,hi,rfl⟩:=List.mem_iff_getElem.1 h
 simp only[BS,List.length_mapIdx]at hi
 exact⟨i,b.recs[i],List.getElem?_eq_getElem hi,by simp[BS]⟩
theorem ZE {b:Batch} {off:Int}:(BS b off).length=b.recs.length:=by simp[BS]
theorem Tw {b:Batch} {off:Int} (h:0≤off):Srt Row.offset (BS b off):=by
 unfold Srt
 rw[List.pairwise_iff_getElem]
 intro i j hi hj hij
 have h1: ∀k (hk:k<(BS b off).length),((BS b off)[k]'hk).offset=off+k:=fun k hk=>by
  simp only[BS,List.getElem_mapIdx,FA];rw[if_neg O]
 rw[h1 i hi,h1 j hj];omega
theorem Xg {b:Batch} (hb:A1 b=true) {off:Int} {r:Row} (h:r∈BS b off):HZ r=false:=by
 obtain⟨i,x,hx,rfl⟩:=Lp h
 have hm:=AU hb
 have hbb:=Fv hb
 unfold Cm at hbb
 have hlt:=(List.getElem?_eq_some_iff.1 hx).1
 have hr:G6 x=true:=by
  simp only[A1,Bool.and_eq_true]at hb
  exact List.all_eq_true.1 hb.2 x (List.mem_of_getElem? hx)
 simp only[G6,Bool.and_eq_true,decide_eq_true_eq]at hr
 simp only[HZ,FA]
 refine decide_eq_false ?_
 omega
theorem Mr {p:Part} {b:Batch} (h:GO p b=none):(∀o∈p.opens,o.pid≠b.pid)∨b.txn=true:=by
 unfold GO at h
 cases hf:p.opens.find? (fun o=>decide (o.pid=b.pid))with
 |none=>exact .inl fun o ho=>by simpa using List.find?_eq_none.1 hf o ho
 |some o=>
  rw[hf]at h
  simp only at h
  cases ht:b.txn with
  |true=>exact .inr J
  |false=>rw[ht]at h;simp at h
theorem T0 {p:Part} {b:Batch} (h:GO p b=none) {o:Opn} (hf:p.opens.find? (fun o=>decide (o.pid=b.pid))=some o):b.txn=true∧o.epoch=b.epoch∧o.batches.length<8:=by
 unfold GO at h
 rw[hf]at h
 simp only at h
 cases ht:b.txn with
 |false=>rw[ht]at h;simp at h
 |true=>
  rw[ht]at h
  refine⟨J,?_,?_⟩
  ·rcases Decidable.em (o.epoch=b.epoch)with e|e
   ·exact e
   ·simp[e]at h
  ·rcases Nat.lt_or_ge o.batches.length 8 with e|e
   ·exact e
   ·simp[e]at h;split at h<;>cases h
theorem Hv {p:Part} {b:Batch} (h:FW p b=.nilIface):GO p b=none∧Abs p b≤1048576:=by
 unfold FW at h
 cases hr:GO p b with
 |some x=>rw[hr]at h;simp[Cv]at h
 |none=>
  rw[hr]at h
  simp only at h
  split at h
  ·simp[Cv]at h
  ·exact⟨J,by omega⟩
theorem TB {p:Part} {b:Batch} (h:POk p) (hb:A1 b=true) (hc:B4 p.prods b=0) (hi:Cl p.prods b=false) (ht:b.txn=false) (hr:FW p b=.nilIface):POk (Co p b):=by
 obtain⟨hro,hrn⟩:=Hv hr
 have hno: ∀o∈p.opens,o.pid≠b.pid:=(Mr hro).elim id fun e=>by rw[ht]at e;cases e
 have h0:=h.b0;have h1:=h.b1;have h2:=h.b2
 unfold Abs at hrn
 have htk:=DT hc hi (base:=p.fin) ⟨by omega,h2⟩
 refine⟨h0,by simp only[Co];omega,by simp only[Co];omega,?_,fun r hr=>?_,h.osrt,fun r hr=>?_,MV h.may hb hc hi ⟨by omega,h2⟩,fun o ho=>?_⟩
 ·simp only[Co,Srt]
  rw[List.pairwise_append]
  refine⟨h.srt,Tw O,fun x hx y hy=>?_⟩
  have:=(h.rin x hx).2
  obtain⟨i,z,hz,rfl⟩:=Lp hy
  simp only[FA];rw[if_neg O];omega
 ·simp only[Co]at hr⊢
  rcases List.mem_append.1 hr with hr|hr
  ·have:=h.rin r hr;omega
  ·obtain⟨i,z,hz,rfl⟩:=Lp hr
   have hlt:=(List.getElem?_eq_some_iff.1 hz).1
   simp only[FA];rw[if_neg O];omega
 ·simp only[Co]at hr
  rcases List.mem_append.1 hr with hr|hr
  ·exact h.rok r hr
  ·exact Xg hb hr
 ·simp only[Co]at ho⊢
  have ho2:=h.ook o ho
  have hne:=hno o ho
  unfold PE at ho2⊢
  rw[htk,HC h.may,Jh h.may]
  have e: ¬(Bx p.prods b p.fin).pid=o.pid:=fun e=>hne e.symm
  simp only[e,decide_false,Bool.false_or,if_false]
  exact ho2
theorem K5 {b:Batch}: ∀{l:List Batch},D3 (l++[b])=Bo b
 |[]=>rfl
 |[a]=>rfl
 |a::c::r=>by
  have:=K5 (b:=b) (l:=c::r)
  simpa[D3]using this
theorem Jz {pid ep:Int} {b:Batch} (hb:A1 b=true) (ht:b.txn=true) (hp:b.pid=pid) (he:b.epoch=ep): ∀{l:List Batch} {n:Int},Cj pid ep n l=true→l≠[]→b.seq=D3 l→Cj pid ep n (l++[b])=true
 |[],_,_,h,_=>absurd J h
 |[a],n,h,_,hs=>by
  simp only[Cj,Bool.and_eq_true,List.cons_append,List.nil_append]at h⊢
  exact⟨h.1,by simp[hb,ht,hp,he,hs,D3]⟩
 |a::c::r,n,h,_,hs=>by
  simp only[Cj,Bool.and_eq_true,List.cons_append]at h⊢
  refine⟨h.1,?_⟩
  have:=Jz hb ht hp he (l:=c::r) (n:=Bo a) (by simp only[Cj,Bool.and_eq_true];exact h.2) Z (by simpa[D3]using hs)
  simpa[Cj]using this
theorem PQ {b:Batch} {l:List Batch} (h:l≠[]):HA (l++[b])=HA l:=by
 cases l with
 |nil=>exact absurd J h
 |cons a r=>rfl
theorem Aey {l:List Prod} {b:Batch} (hl:BO l=true) (hb:A1 b=true) (hc:B4 l b=0) (hi:Cl l b=false) (hh:CK l b.pid=true) (he:(AX l b.pid).epoch=b.epoch):b.seq=(AX l b.pid).next:=by
 obtain⟨h1,h2⟩:=Vi hl hb
 rw[h1]at hc;rw[h2]at hi
 have hcur:DR l b=AX l b.pid:=by simp[DR,hh,he]
 have hf:CL l b=false:=by simp[CL,hh,he]
 have ha:(DR l b).seen.any (EG b)=false:=by simpa[Hd,hf]using hi
 unfold Ee at hc
 rw[hf,ha]at hc
 simp at hc
 rw[hcur]at hc
 exact hc
theorem Yu {p:Part} {b:Batch} (h:POk p) (hb:A1 b=true) (hc:B4 p.prods b=0) (hi:Cl p.prods b=false) (ht:b.txn=true) (hr:GO p b=none):BZ (C1 p.opens b)=true∧(C1 p.opens b).epoch=b.epoch∧D3 (C1 p.opens b).batches=Bo b:=by
 unfold C1
 cases hf:p.opens.find? (fun o=>decide (o.pid=b.pid))with
 |none=>
  refine⟨?_,J,J⟩
  simp[BZ,Cj,HA,hb,ht]
 |some o=>
  obtain⟨_,he,hn⟩:=T0 hr hf
  have ho:=h.ook o (List.mem_of_find?_eq_some hf)
  have hpid:o.pid=b.pid:=by simpa using List.find?_some hf
  unfold PE at ho
  rw[hpid]at ho
  obtain⟨h1,h2,h3,h4⟩:=ho
  have hs:=Aey h.may hb hc hi h2 (by rw[h3,he])
  refine⟨?_,he,K5⟩
  have hlen:=Cc h1
  have hne:o.batches≠[]:=fun e=>by rw[e]at hlen;simp at hlen
  simp only[BZ,Bool.and_eq_true,decide_eq_true_eq,List.length_append,List.length_cons,List.length_nil,PQ hne]at h1⊢
  exact⟨by omega,Jz hb ht hpid.symm he.symm h1.2 hne (by rw[hs,h4])⟩
theorem Ahr {p:Part} {b:Batch} (h:POk p) (hb:A1 b=true) (hc:B4 p.prods b=0) (hi:Cl p.prods b=false) (ht:b.txn=true) (hr:FW p b=.nilIface):POk (Gc p b):=by
 obtain⟨hro,hrn⟩:=Hv hr
 obtain⟨k1,k2,k3⟩:=Yu h hb hc hi ht hro
 have htk:=DT hc hi (base:= -1) ⟨by omega,by omega⟩
 refine⟨h.b0,h.b1,h.b2,h.srt,h.rin,KV h.osrt,h.rok,MV h.may hb hc hi ⟨by omega,by omega⟩,fun o ho=>?_⟩
 simp only[Gc]at ho⊢
 unfold PE
 rw[htk,HC h.may,Jh h.may]
 rcases H0.1 ho with rfl|⟨ho,hne⟩
 ·have e:(Bx p.prods b (-1)).pid=(C1 p.opens b).pid:=Il.symm
  simp only[e,decide_true,Bool.true_or,if_true]
  exact⟨k1,trivial,k2.symm,k3.symm⟩
 ·have e: ¬(Bx p.prods b (-1)).pid=o.pid:=fun e=>hne (by rw[Il];exact e.symm)
  simp only[e,decide_false,Bool.false_or,if_false]
  exact h.ook o ho
end Go.Proofs.YtpdmaenhenfofaaGreatDoor
namespace Go.Proofs.YtpdmaenhenfofaaGreatDoor
open Go.Am
attribute [local irreducible] Decidable.decide
set_option maxRecDepth 100000
set_option maxHeartbeats 1000000
theorem Ct.freezeK {P:Program} {f:Nat} {xs:List AV} {σ σ2 s:St} {r r':AV} {e:Env} (l:St) (h:Ct P f xs σ r σ2) (hz:Dx l [r] [] σ2=([r'],e,s)):Ct P f xs σ r' s:=by
 refine⟨h.1,fun vs w g hrl hi=>(h.2 vs w g hrl hi).mono ?_⟩
 rintro ed w' ⟨v,g1,rfl,h1,h2,h3⟩
 obtain⟨g2,k1,k2,k3,_⟩:=CQ (w:=w') l (a:=⟨#[],[]⟩) hz h3 (vs:=[v]) (BL.cons h2 BL.nil) (fun t x hx=>by simp[Am.look]at hx)
 exact⟨v,g2,J,h1.trans k1,k3.2 0 v r' J J,k2⟩
theorem Xm (p:Part) (hs:Bt p):Ct Tryz.prog 53 [.agg (Aj (A5 p))] [] (.agg [.t (.int .i64 p.start),.t (.int .i64 p.fin),.row 28 5 0 (p.rows.map AC).length,.t (.slice .any 3 (p.opens.map Aw)),.t (.slice .any 4 (p.prods.map Av))]) [(28,.grow 5 (p.rows.map AC))]:=by
 rw[List.length_map]
 refine Ct.freezeK (e:=[]) [(90,.grow 4 (p.prods.map Av)),(80,.grow 3 (p.opens.map Aw))] (VW p hs) ?_
 have b1:Nat.beq 80 90=false:=rfl
 have b2:Nat.beq 28 90=false:=rfl
 have b3:Nat.beq 28 80=false:=rfl
 have b4:Nat.beq 90 80=false:=rfl
 have t1:(p.prods.map Av).take p.prods.length=p.prods.map Av:=List.take_of_length_le Z
 have t2:(p.opens.map Aw).take p.opens.length=p.opens.map Aw:=List.take_of_length_le Z
 simp[Dx,Lz,Am.look,Kd,AV.has,DD,H9,BA,Fh,b1,b2,b3,b4,t1,t2]
def HF (b:Batch):Entry:={kind:=0,b:=b,yes:=false,next:=0,offset:=0,row:=⟨0,0,0,[],[]⟩,prod:=CZ}
theorem HE {b:Batch} (hb:A1 b=true):B9 (HF b)=true:=by
 simp[B9,Dm,Fd,HF,hb,CZ]
theorem VR {b:Batch} (hb:A1 b=true):PJ [HF b]=0:=by simp[PJ,HE hb]
theorem VQ {b:Batch} (hb:A1 b=true) (n:Bs):Of n [HF b]=CX n [HF b]:=by simp[Of,HE hb]
def wrT (e i:Int):T:=if e=0 then .iface 152 (.agg (BK e i))else .iface 153 (.agg (BK e i))
theorem T4 (e i:Int) (he:e=0∨e=1) (hi0:i=0∨i=1∨i=2) (p:Part) (b:Batch) (hs:Bt p) (hf:0≤p.fin∧p.fin≤1048576) (hb:A1 b=true) (ht:b.txn=false) (hc:B4 p.prods b=0) (hi:Cl p.prods b=false) (hr:FW p b=.nilIface):Ct Tryz.prog 38 [.t (wrT e i),.agg (Aj (A5 p)),.agg (Aj (Ap b))] [] (.tuple [.agg (Aj (A5 (Co p b))),.t (.int .i64 p.fin),.t (.slice .any 4 ((CX (DH e i) [HF b]).map BV)),.t .nilIface]) []:=by
 have hs':=hs
 obtain⟨s1,s2,s3,s4⟩:=hs'
 have hm:=AU hb
 have ck:=Hr p.prods b s4 O
 have cr:=Ib p b hs O O
 have co:=Xm p hs
 have ce:=Abo p.start p.fin p.rows p.opens p.prods b hb hf.1 O s1
 unfold Xj at ce
 have ct:=RU p.prods b p.fin s4 O
 rw[hc,hi]at ck
 rw[hr]at cr
 rw[KR hc hi (base:=p.fin) ⟨by omega,hf.2⟩]at ct
 have ep:=LO (DH e i) [HF b] Z (by simp[DV,HF,CZ];omega)
 rw[VR hb,VQ hb]at ep
 have cI:=Mu e i b he hi0
 have cB:e=1→Ct Tryz.prog 268 [.t (.agg (BK e i)),.agg (Aj (Ap b))] [] (.t (.str (DH e i))) []:=fun h=>by
  have:=Mv i b hi0 hb
  subst h
  rwa[show Dv 1 i b=DH 1 i by simp[Dv,ht]]at this
 refine ct0 Ac Tryz.func38 J false J J ?_
 repeat'(first|refine An Ac J J J J J ?_|refine Ae Ac J J J ?_|refine Ag ?_|refine Ah ?_|refine Ai Ac J J ?_|(refine Af J (ht:=fun h=>?_) (hf:=fun h=>?_)<;>try exact prn)|refine Ao ?_|refine A9 (id:=12) (m:=4) Ac Y J J J J ?_|refine AA J J J J ?_|refine Ak Ac J J J J J J J (ck) J J ?_|refine Ak Ac J J J J J J J (cr) J J ?_|refine A7 Ac [] [(28,86)] J J J J J co J J J J J ?_|refine A7 Ac [(86,3),(28,1)] [(3,86),(1,28)] J J J J J ce J J J J J ?_|refine Ak Ac J J J J J J J (ct) J J ?_)
 ·exact absurd (by assumption:b.txn=true) (by rw[ht];simp)
 refine Tr.weak (E:=[(0,.t (wrT e i)),(5,.ref 10 0),(6,.ref 12 0),(10,.t (.int .i64 p.fin)),(14,.ref 28 0)]) (S:=[(86,.grow 5 ((p.rows++BS b p.fin).map AC)),(28,.cells [.t (.int .i64 p.start),.t (.int .i64 (p.fin+b.recs.length)),.row 86 5 0 ((p.rows++BS b p.fin).map AC).length,.t (.slice .any 3 (p.opens.map Aw)),.t (.slice .any 4 ((EM p.prods b p.fin).map Av))]),(12,.cells (Aj F8.zero)),(10,.cells (Aj (Ap b)))]) ?_ (AR [4] (Ad J J (Ad J J (Ad J J (Ad J J (Ad J J Aq))))) J)
 have hw:(e=0∧wrT e i=.iface 152 (.agg (BK e i)))∨(e=1∧wrT e i=.iface 153 (.agg (BK e i))):=by
  rcases he with rfl|rfl
  ·exact .inl ⟨J,J⟩
  ·exact .inr ⟨J,J⟩
 rcases hw with⟨he1,hw⟩|⟨he1,hw⟩<;>rw[hw]
 ·repeat'(first|refine An Ac J J J J J ?_|refine Ae Ac J J J ?_|refine Ag ?_|refine Ah ?_|refine Ai Ac J J ?_|(refine Af J (ht:=fun h=>?_) (hf:=fun h=>?_)<;>try exact prn)|refine Ao ?_|refine Ar ?_|refine A9 (id:=18) (m:=11) Ac Y J J J J ?_|refine AA J J J J ?_|refine AO J J J J J (cI) J J ?_|refine AO J J J J J (Ct.args ep ⟨Sub.refl _,Hh ⟨⟨AJ.refl _,AJ.refl _,AJ.refl _,AJ.refl _,AJ.refl _,AJ.refl _,AJ.refl _,AJ.refl _,AJ.refl _,AJ.refl _,AJ.refl _,AJ.refl _,AJ.refl _,AJ.refl _,AJ.refl _,AJ.refl _,AJ.refl _,AJ.nil,trivial⟩,trivial⟩,trivial⟩) J J ?_)
  refine Au J (Sub.of_eq ?_)
  simp[Co,A5,Aj,BA]
  exact List.take_of_length_le Z
 ·have cB:=cB he1
  repeat'(first|refine An Ac J J J J J ?_|refine Ae Ac J J J ?_|refine Ag ?_|refine Ah ?_|refine Ai Ac J J ?_|(refine Af J (ht:=fun h=>?_) (hf:=fun h=>?_)<;>try exact prn)|refine Ao ?_|refine Ar ?_|refine A9 (id:=18) (m:=11) Ac Y J J J J ?_|refine AA J J J J ?_|refine AO J J J J J (cB) J J ?_|refine AO J J J J J (Ct.args ep ⟨Sub.refl _,Hh ⟨⟨AJ.refl _,AJ.refl _,AJ.refl _,AJ.refl _,AJ.refl _,AJ.refl _,AJ.refl _,AJ.refl _,AJ.refl _,AJ.refl _,AJ.refl _,AJ.refl _,AJ.refl _,AJ.refl _,AJ.refl _,AJ.refl _,AJ.refl _,AJ.nil,trivial⟩,trivial⟩,trivial⟩) J J ?_)
  refine Au J (Sub.of_eq ?_)
  simp[Co,A5,Aj,BA]
  exact List.take_of_length_le Z
end Go.Proofs.YtpdmaenhenfofaaGreatDoor
namespace Go.Proofs.YtpdmaenhenfofaaGreatDoor
open Go.Am
attribute [local irreducible] Decidable.decide
set_option maxRecDepth 100000
set_option maxHeartbeats 1000000
def Iv (b:Batch):Bool:=decide (40<(b.recs.length:Int))||b.recs.any OC
def EW (l:List Batch):Bool:=decide (40<(l.length:Int))||l.any Iv
theorem Wp (l:List Batch):Ct Tryz.prog 14 [.t (.slice .any 5 (l.map Ap))] [] (.t (.bool (EW l))) []:=by
 refine ct0 Ac Tryz.func14 J false J J ?_
 have hlm:(l.map Ap).length=l.length:=List.length_map ..
 repeat'(first|refine Ae Ac J J J ?_|refine Ag ?_|refine Ah ?_|refine Ai Ac J J ?_|(refine Af J (ht:=fun h=>?_) (hf:=fun h=>?_)<;>try exact prn)|refine Al ?_|refine Ao ?_|refine Ar ?_)
 ·refine Au J (BJ ?_);rw[hlm]at h;simp[EW,h]
 have hg:decide (40<(l.length:Int))=false:=decide_eq_false O
 refine AM (ι:=Nat) (fun i=>i≤l.length∧(l.take i).any Iv=false) (fun i=>[(0,.t (.slice .any 5 (l.map Ap))),(3,.t (.int .i64 i))]) (fun _=>[]) (fun i=>l.length-i) 0 Z ?_ ?_
 ·exact AR [] (Ad J J (Ad J J Aq)) J
 rintro i ⟨hi,hany⟩
 by_cases hlt:i<l.length
 ·have hr:l[i]?=some l[i]:=List.getElem?_eq_getElem hlt
  generalize l[i]=r at hr
  have hlr:(r.recs.map Bu).length=r.recs.length:=List.length_map ..
  repeat'(first|refine Ae Ac J J J ?_|refine Ag ?_|refine Ah ?_|refine Ai Ac J J ?_|(refine Af J (ht:=fun h=>?_) (hf:=fun h=>?_)<;>try exact prn)|refine Al ?_|refine Ao ?_|refine Ar ?_|refine AD Ac J J J J J J J (A2 Aa) J ?_)
  ·refine Au J (BJ ?_);rw[hlr]at h;simp[EW,hg,I7 hr (p:=Iv) (by simp[Iv,h])]
  have hgr:decide (40<(r.recs.length:Int))=false:=decide_eq_false O
  refine AM (ι:=Nat) (fun j=>j≤r.recs.length∧(r.recs.take j).any OC=false) (fun j=>[(0,.t (.slice .any 5 (l.map Ap))),(3,.t (.int .i64 i)),(4,.t (.int .i64 j))]) (fun _=>[]) (fun j=>r.recs.length-j) 0 Z ?_ ?_
  ·exact AR [] (Ad J J (Ad J J (Ad J J Aq))) J
  rintro j ⟨hj,hanj⟩
  by_cases hlj:j<r.recs.length
  ·have hrj:r.recs[j]?=some r.recs[j]:=List.getElem?_eq_getElem hlj
   generalize r.recs[j]=c at hrj
   repeat'(first|refine Ae Ac J J J ?_|refine Ag ?_|refine Ah ?_|refine Ai Ac J J ?_|(refine AP J J J J J (ht:=fun h=>?_) (hf:=fun h=>?_)<;>try exact prn)|(refine Af J (ht:=fun h=>?_) (hf:=fun h=>?_)<;>try exact prn)|refine Al ?_|refine Ao ?_|refine Ar ?_|refine AD Ac J J J J J J J (A2 Aa) J ?_)
   all_goals first
    |(refine AF (j+1) ⟨hlj,Cd hrj hanj (by simp[OC];omega)⟩ O [] (Ad J J (Ad J J (Ad J ?_ Aq))) J
      rw[A0 O O];rfl)
    |(refine Au J (BJ ?_)
      have hgc:OC c=true:=by simp[OC];omega
      simp[EW,hg,I7 hr (p:=Iv) (by simp only[Iv,hgr,Bool.false_or];exact I7 hrj hgc)])
  ·repeat'(first|refine Ae Ac J J J ?_|refine Ag ?_|refine Ah ?_|refine Ai Ac J J ?_|(refine Af J (ht:=fun h=>?_) (hf:=fun h=>?_)<;>try exact prn)|refine AB ?_|refine AD Ac J J J J J J J (A2 Aa) J ?_)
   have hb:Iv r=false:=by simp only[Iv,hgr,Bool.false_or];exact CM O hanj
   refine AF (i+1) ⟨hlt,Cd hr hany hb⟩ O [] (Ad J J (Ad J ?_ Aq)) J
   rw[A0 O O];rfl
 ·repeat'(first|refine Ae Ac J J J ?_|refine Ag ?_|refine Ah ?_|refine Ai Ac J J ?_|(refine Af J (ht:=fun h=>?_) (hf:=fun h=>?_)<;>try exact prn)|refine AB ?_|refine Ar ?_)
  exact Au J (BJ (by simp[EW,hg,CM O hany]))
theorem Ts (a b:List Row) (ha:a.length≤100000000):Ct Tryz.prog 16 [.t (.slice .any 5 (a.map AC)),.t (.slice .any 5 (b.map AC))] [] (.t (.bool (decide (a=b)))) []:=by
 refine ct0 Ac Tryz.func16 J false J J ?_
 have hla:(a.map AC).length=a.length:=List.length_map ..
 have hlb:(b.map AC).length=b.length:=List.length_map ..
 repeat'(first|refine Ae Ac J J J ?_|refine Ag ?_|refine Ah ?_|refine Ai Ac J J ?_|(refine Af J (ht:=fun h=>?_) (hf:=fun h=>?_)<;>try exact prn)|refine Al ?_|refine Ao ?_|refine Ar ?_)
 ·exact Au J (BJ (bF fun e=>by subst e;exact h J))
 have hl:a.length=b.length:=by omega
 refine AM (ι:=Nat) (fun i=>i≤a.length∧a.take i=b.take i) (fun i=>[(0,.t (.slice .any 5 (a.map AC))),(1,.t (.slice .any 5 (b.map AC))),(5,.t (.int .i64 i))]) (fun _=>[]) (fun i=>a.length-i) 0 Z ?_ ?_
 ·exact AR [] (Ad J J (Ad J J (Ad J J Aq))) J
 rintro i ⟨hi,htk⟩
 by_cases hlt:i<a.length
 ·have hr:a[i]?=some a[i]:=List.getElem?_eq_getElem hlt
  have hs:b[i]?=some (b[i]' O):=List.getElem?_eq_getElem _
  generalize a[i]=r at hr
  generalize b[i]' O=s at hs
  repeat'(first|refine Ae Ac J J J ?_|refine Ag ?_|refine Ah ?_|refine Ai Ac J J ?_|(refine Af J (ht:=fun h=>?_) (hf:=fun h=>?_)<;>try exact prn)|refine Al ?_|refine Ao ?_|refine Ar ?_|refine A9 (id:=6) (m:=8) Ac Y J J J J ?_|refine AA J J J J ?_|refine Bz J J J J J J J (A2 Aa) J ?_)
  ·exact Au J (BJ (bF (fun e=>by subst e;rw[hr]at hs;cases hs;simp at h)))
  ·have e:r=s:=by cases r;cases s;simp at h;simp[h]
   refine AF (i+1) ⟨hlt,IL hr hs htk e⟩ O [] (Ad J J (Ad J J (Ad J ?_ Aq))) J
   rw[A0 O O];rfl
 ·repeat'(first|refine Ae Ac J J J ?_|refine Ag ?_|refine Ah ?_|refine Ai Ac J J ?_|(refine Af J (ht:=fun h=>?_) (hf:=fun h=>?_)<;>try exact prn)|refine AB ?_|refine Ar ?_)
  exact Au J (BJ (bT (KS hl O htk)))
end Go.Proofs.YtpdmaenhenfofaaGreatDoor
namespace Go.Proofs.YtpdmaenhenfofaaGreatDoor
open Go.Am
attribute [local irreducible] Decidable.decide
set_option maxRecDepth 100000
set_option maxHeartbeats 1000000
def Hw (p:Part) (b:Batch):Option (Bs×Int):=match GO p b with
 |some x=>some x
 |none=>if Abs p b>1048576 then some ([116,104,101,32,101,110,100],102)else none
def Aik:Option (Bs×Int)→T
 |some (s,n)=>Cv 97 s n
 |none=>.nilIface
theorem Tz (p:Part) (b:Batch):FW p b=Aik (Hw p b):=by
 unfold FW Hw
 cases GO p b with
 |some x=>rfl
 |none=>simp only;split<;>rfl
theorem Fl {p:Part} {b:Batch} (h:Hw p b=none):FW p b=.nilIface:=by rw[Tz,h];rfl
structure PR where
 part:Part
 base:Int
 w:List Wr
 err:Option (Bs×Int)
def CP (e i:Int) (p:Part) (b:Batch):PR:=
 if B4 p.prods b≠0 then⟨Cq,0,[],some ([97,32,115,101,113,117,101,110,99,101],B4 p.prods b)⟩
 else if Cl p.prods b=true then⟨p,Fa p.prods b,[],none⟩
 else match Hw p b with
  |some x=>⟨Cq,0,[],some x⟩
  |none=>if b.txn=true then⟨Gc p b,-1,CX (Dv e i b) [HF b],none⟩else⟨Co p b,p.fin,CX (DH e i) [HF b],none⟩
def PR.av (r:PR):AV:=.tuple [.agg (Aj (A5 r.part)),.t (.int .i64 r.base),.t (.slice .any 4 (r.w.map BV)),.t (Aik r.err)]
theorem Gt:Sub (.agg (Aj F8.zero)) (.agg (Aj (A5 Cq))):=by
 refine B7 ?_
 exact⟨Sub.refl _,Sub.refl _,A6,A6,A6,trivial⟩
theorem ZQ {t:Option (Bs×Int)} {sz:Nat} {m:SM}:Sub (.tuple [.agg (Aj F8.zero),.t (.int .i64 0),.t (.slice m sz []),.t (Aik t)]) (PR.av ⟨Cq,0,[],t⟩):=AK ⟨Gt,Sub.refl _,A6,Sub.refl _,trivial⟩
theorem Ado (p:Part) (hs:Bt p):Ct Tryz.prog 53 [.agg (Aj (A5 p))] [] (.agg (Aj (A5 p))) []:=by
 have h:=Xm p hs
 refine Ct.freeze (r':=.agg (Aj (A5 p))) (e:=[]) (s:=[]) h ?_ J
 have t1:(p.rows.map AC).take p.rows.length=p.rows.map AC:=List.take_of_length_le Z
 simp[Dx,Lz,Am.look,Kd,AV.has,DD,H9,BA,Fh,t1,A5,Aj]
theorem T8 (w:T) (p:Part) (b:Batch) (hs:Bt p) (hf:0≤p.fin∧p.fin≤1048576) (hb:A1 b=true) (h:B4 p.prods b≠0∨Cl p.prods b=true∨Hw p b≠none) (e i:Int):Ct Tryz.prog 38 [.t w,.agg (Aj (A5 p)),.agg (Aj (Ap b))] [] (CP e i p b).av []:=by
 have hm:=AU hb
 have ck:=Hr p.prods b hs.2.2.2 O
 have cr:=Ib p b hs O O
 have co:=Ado p hs
 by_cases h1:B4 p.prods b≠0
 ·have hr:CP e i p b=⟨Cq,0,[],some ([97,32,115,101,113,117,101,110,99,101],B4 p.prods b)⟩:=by simp[CP,h1]
  rw[hr]
  generalize B4 p.prods b=n at*
  refine ct0 Ac Tryz.func38 J false J J ?_
  repeat'(first|refine An Ac J J J J J ?_|refine Ae Ac J J J ?_|refine Ag ?_|refine Ah ?_|refine Ai Ac J J ?_|(refine Af J (ht:=fun h=>?_) (hf:=fun h=>?_)<;>try exact prn)|refine Ar ?_|refine Ak Ac J J J J J J J (ck) J J ?_)
  exact Au J (ZQ (t:=some ([97,32,115,101,113,117,101,110,99,101],n)))
 ·have h1':B4 p.prods b=0:=Classical.not_not.1 h1
  by_cases h2:Cl p.prods b=true
  ·have hr:CP e i p b=⟨p,Fa p.prods b,[],none⟩:=by simp[CP,h1',h2]
   rw[hr]
   rw[h1',h2]at ck
   refine ct0 Ac Tryz.func38 J false J J ?_
   repeat'(first|refine An Ac J J J J J ?_|refine Ae Ac J J J ?_|refine Ag ?_|refine Ah ?_|refine Ai Ac J J ?_|(refine Af J (ht:=fun h=>?_) (hf:=fun h=>?_)<;>try exact prn)|refine Ao ?_|refine Ar ?_|refine Ak Ac J J J J J J J (ck) J J ?_|refine Ak Ac J J J J J J J (co) J J ?_)
   exact Au J (AK ⟨Sub.refl _,Sub.refl _,A6,Sub.refl _,trivial⟩)
  ·have h3:Hw p b≠none:=by
    rcases h with h|h|h
    ·exact absurd h1' h
    ·exact absurd h h2
    ·exact h
   have h2':Cl p.prods b=false:=by simpa using h2
   rw[Tz]at cr
   cases hrc:Hw p b with
   |none=>exact absurd hrc h3
   |some x=>
    have hr:CP e i p b=⟨Cq,0,[],some x⟩:=by simp[CP,h1',h2,hrc]
    rw[hr]
    rw[hrc]at cr
    rw[h1',h2']at ck
    obtain⟨s,n⟩:=x
    refine ct0 Ac Tryz.func38 J false J J ?_
    repeat'(first|refine An Ac J J J J J ?_|refine Ae Ac J J J ?_|refine Ag ?_|refine Ah ?_|refine Ai Ac J J ?_|(refine Af J (ht:=fun h=>?_) (hf:=fun h=>?_)<;>try exact prn)|refine Ao ?_|refine Ar ?_|refine Ak Ac J J J J J J J (ck) J J ?_|refine Ak Ac J J J J J J J (cr) J J ?_)
    exact Au J (ZQ (t:=some (s,n)))
theorem T7 (e i:Int) (he:e=0∨e=1) (hi0:i=0∨i=1∨i=2) (p:Part) (b:Batch) (hs:Bt p) (hf:0≤p.fin∧p.fin≤1048576) (hb:A1 b=true)
  (hT:b.txn=true→B4 p.prods b=0→Cl p.prods b=false→Hw p b=none→Ct Tryz.prog 38 [.t (wrT e i),.agg (Aj (A5 p)),.agg (Aj (Ap b))] [] (CP e i p b).av []):
  Ct Tryz.prog 38 [.t (wrT e i),.agg (Aj (A5 p)),.agg (Aj (Ap b))] [] (CP e i p b).av []:=by
 by_cases h:B4 p.prods b≠0∨Cl p.prods b=true∨Hw p b≠none
 ·exact T8 _ p b hs hf hb h e i
 ·have h1:B4 p.prods b=0:=Classical.byContradiction fun h'=>h (.inl h')
  have h2:Cl p.prods b=false:=by cases hh:Cl p.prods b with
   |false=>rfl
   |true=>exact absurd (.inr (.inl hh)) h
  have h3:Hw p b=none:=Classical.byContradiction fun h'=>h (.inr (.inr h'))
  cases ht:b.txn with
  |true=>exact hT ht h1 h2 h3
  |false=>
   have:=T4 e i he hi0 p b hs hf hb ht h1 h2 (Fl h3)
   rw[show CP e i p b=⟨Co p b,p.fin,CX (DH e i) [HF b],none⟩by simp[CP,h1,h2,h3,ht]]
   exact this
end Go.Proofs.YtpdmaenhenfofaaGreatDoor
namespace Go.Proofs.YtpdmaenhenfofaaGreatDoor
open Go.Am
attribute [local irreducible] Decidable.decide
set_option maxRecDepth 100000
set_option maxHeartbeats 1000000
structure PO where
 part:Part
 base:Int
 w:List Wr
 e:Int
def DQ (e q:Int) (p:Part):Bool:=decide (q<0∨3≤q)||(!Er p||decide (e≠0∧e≠1))
def B8 (e q:Int) (p:Part) (b:Batch):PO:=
 if DQ e q p=true∨A1 b=false then⟨Cq,0,[],2⟩
 else match (CP e q p b).err with
  |some x=>⟨Cq,0,[],x.2⟩
  |none=>⟨(CP e q p b).part,(CP e q p b).base,(CP e q p b).w,0⟩
def PO.av (r:PO):AV:=.tuple [.agg (Aj (A5 r.part)),.t (.int .i64 r.base),.t (.slice .any 4 (r.w.map BV)),.t (.int .i64 r.e)]
theorem VU {n:Int} {sz:Nat} {m:SM}:Sub (.tuple [.agg (Aj F8.zero),.t (.int .i64 0),.t (.slice m sz []),.t (.int .i64 n)]) (PO.av ⟨Cq,0,[],n⟩):=AK ⟨Gt,Sub.refl _,A6,Sub.refl _,trivial⟩
theorem VZ {e q:Int} {p:Part} (h:DQ e q p=true):ofW e q p=.nilIface∧ ∃s,ofE e q p=Cv 97 s 2:=by
 simp only[DQ,Bool.or_eq_true,decide_eq_true_eq,Bool.not_eq_true']at h
 unfold ofW ofE
 by_cases h1:q<0∨3≤q
 ·exact⟨if_pos (.inl h1),_,if_pos h1⟩
 ·cases h2:Er p with
  |false=>exact⟨if_pos (.inr J),Px p,by rw[if_neg h1];simp[enT,h2]⟩
  |true=>
   have h3:e≠0∧e≠1:=by rcases h with h|h|h;exact absurd h h1;rw[h2]at h;cases h;exact h
   have h4: ¬((q<0∨3≤q)∨true=false):=by simp;omega
   exact⟨by rw[if_neg h4,if_neg h3.1,if_neg h3.2],[97,110,32,101,110,103,105,110,101],by rw[if_neg h1,if_neg Z,if_neg O]⟩
theorem F5 {e q:Int} {p:Part} (h:DQ e q p=false):(ofW e q p=wrT e q∧ofE e q p=.nilIface)∧(e=0∨e=1)∧(q=0∨q=1∨q=2)∧Er p=true:=by
 simp only[DQ,Bool.or_eq_false_iff,decide_eq_false_iff_not,Bool.not_eq_false']at h
 obtain⟨h1,h2,h3⟩:=h
 have h4: ¬((q<0∨3≤q)∨Er p=false):=by rw[h2];simp;omega
 have he:e=0∨e=1:=by omega
 refine⟨⟨?_,?_⟩,he,by omega,h2⟩
 ·unfold ofW wrT;rw[if_neg h4]
  rcases he with rfl|rfl
  ·rw[if_pos J,if_pos J]
  ·rw[if_neg Ab,if_pos J,if_neg Ab]
 ·unfold ofE;rw[if_neg h1,if_neg (by rw[h2];simp),if_pos he]
theorem T2 (e q:Int) (p:Part) (b:Batch) (hs:Bt p) (hl:b.recs.length≤1000000)
  (hp:DQ e q p=false→A1 b=true→Ct Tryz.prog 38 [.t (wrT e q),.agg (Aj (A5 p)),.agg (Aj (Ap b))] [] (CP e q p b).av []):
  Ct Tryz.prog 15 [.t (.int .i8 e),.t (.int .i64 q),.agg (Aj (A5 p)),.agg (Aj (Ap b))] [] (B8 e q p b).av []:=by
 have cof:=Xn e q p hs
 have cm:=GV b O
 cases hbad:DQ e q p with
 |true=>
  obtain⟨h1,s,h2⟩:=VZ hbad
  have hr:B8 e q p b=⟨Cq,0,[],2⟩:=by simp[B8,hbad]
  rw[hr]
  rw[h1,h2]at cof
  refine ct0 Ac Tryz.func15 J false J J ?_
  repeat'(first|refine An Ac J J J J J ?_|refine Ae Ac J J J ?_|refine Ag ?_|refine Ah ?_|refine Ai Ac J J ?_|(refine AZ J J J J J (ht:=fun h=>?_) (hf:=fun h=>?_)<;>try exact prn)|(refine Af J (ht:=fun h=>?_) (hf:=fun h=>?_)<;>try exact prn)|refine Ao ?_|refine Ar ?_|refine Ak Ac J J J J J J J (cof) J J ?_|refine Ak Ac J J J J J J J (HH s 2) J J ?_)
  exact Au J VU
 |false=>
  obtain⟨⟨h1,h2⟩,he,hq,hpk⟩:=F5 hbad
  rw[h1,h2]at cof
  cases hm:A1 b with
  |false=>
   have hr:B8 e q p b=⟨Cq,0,[],2⟩:=by simp[B8,hm]
   rw[hr]
   rw[hm]at cm
   refine ct0 Ac Tryz.func15 J false J J ?_
   repeat'(first|refine An Ac J J J J J ?_|refine Ae Ac J J J ?_|refine Ag ?_|refine Ah ?_|refine Ai Ac J J ?_|(refine AZ J J J J J (ht:=fun h=>?_) (hf:=fun h=>?_)<;>try exact prn)|(refine Af J (ht:=fun h=>?_) (hf:=fun h=>?_)<;>try exact prn)|refine Ao ?_|refine Ar ?_|refine Ak Ac J J J J J J J (cof) J J ?_|refine Ak Ac J J J J J J J (cm) J J ?_|refine Ak Ac J J J J J J J (HH [97,32,98,97,116,99,104] 2) J J ?_)
   exact Au J VU
  |true=>
   rw[hm]at cm
   have cp:=hp hbad hm
   cases hre:(CP e q p b).err with
   |some x=>
    obtain⟨s,n⟩:=x
    have hr:B8 e q p b=⟨Cq,0,[],n⟩:=by simp[B8,hm,hbad,hre]
    rw[hr]
    unfold PR.av at cp
    rw[hre]at cp
    refine ct0 Ac Tryz.func15 J false J J ?_
    repeat'(first|refine An Ac J J J J J ?_|refine Ae Ac J J J ?_|refine Ag ?_|refine Ah ?_|refine Ai Ac J J ?_|(refine AZ J J J J J (ht:=fun h=>?_) (hf:=fun h=>?_)<;>try exact prn)|(refine Af J (ht:=fun h=>?_) (hf:=fun h=>?_)<;>try exact prn)|refine Ao ?_|refine Ar ?_|refine Ak Ac J J J J J J J (cof) J J ?_|refine Ak Ac J J J J J J J (cm) J J ?_|refine Ak Ac J J J J J J J (cp) J J ?_|refine Ak Ac J J J J J J J (HH s n) J J ?_)
    exact Au J VU
   |none=>
    have hr:B8 e q p b=⟨(CP e q p b).part,(CP e q p b).base,(CP e q p b).w,0⟩:=by simp[B8,hm,hbad,hre]
    rw[hr]
    unfold PR.av at cp
    rw[hre]at cp
    generalize CP e q p b=r at cp
    refine ct0 Ac Tryz.func15 J false J J ?_
    repeat'(first|refine An Ac J J J J J ?_|refine Ae Ac J J J ?_|refine Ag ?_|refine Ah ?_|refine Ai Ac J J ?_|(refine AZ J J J J J (ht:=fun h=>?_) (hf:=fun h=>?_)<;>try exact prn)|(refine Af J (ht:=fun h=>?_) (hf:=fun h=>?_)<;>try exact prn)|refine Ao ?_|refine Ar ?_|refine Ak Ac J J J J J J J (cof) J J ?_|refine Ak Ac J J J J J J J (cm) J J ?_|refine Ak Ac J J J J J J J (cp) J J ?_)
    exact Au J (Sub.refl _)
end Go.Proofs.YtpdmaenhenfofaaGreatDoor
namespace Go.Proofs.YtpdmaenhenfofaaGreatDoor
open Go.Am
attribute [local irreducible] Decidable.decide
set_option maxRecDepth 100000
set_option maxHeartbeats 1000000
theorem DY: ∀{l:List Prod} {n:Int},JH n l=true→n≤8→(l.length:Int)≤8-n
 |[],n,_,h=>by simp;omega
 |p::r,n,h,_=>by
  simp only[JH,Bool.and_eq_true,decide_eq_true_eq]at h
  have hb:=Dh h.1.2
  unfold BU at hb
  have:=DY h.2 O
  simp only[List.length_cons];omega
theorem MW {l:List Prod} (h:BO l=true):EN l:=by
 have h1:=DY h O
 refine⟨by omega,fun p hp=>?_⟩
 have hb:=Dh ((Aon.1 h).2 p hp)
 unfold BU at hb;omega
theorem QV {p:Part} (h:POk p) (hr:p.rows.length≤1000000) (ho:p.opens.length≤1000000):Bt p:=by
 refine⟨hr,ho,fun o hm=>?_,MW h.may⟩
 have hc:=(h.ook o hm).1
 have hl:=Cc hc
 refine⟨by omega,fun b hb=>?_⟩
 simp only[BZ,Bool.and_eq_true]at hc
 have:=AU (JW hc.2 b hb)
 omega
theorem Xk:POk Cq:=⟨by decide,by decide,by decide,List.Pairwise.nil,fun _ h=>by simp[Cq]at h,List.Pairwise.nil,fun _ h=>by simp[Cq]at h,J,fun _ h=>by simp[Cq]at h⟩
structure YI (b:Batch) (i:Nat) (p:Part):Prop where
 ok:POk p
 start:p.start=0
 fin:p.fin=i
 opens:p.opens=[]
 rows:p.rows=(b.recs.take i).mapIdx (FA b 0)
 none:i=0→p.prods=[]
 has:0<i→CK p.prods b.pid=true∧(AX p.prods b.pid).epoch=b.epoch∧(AX p.prods b.pid).next=i∧ ∀s∈(AX p.prods b.pid).seen,s.seq<i
end Go.Proofs.YtpdmaenhenfofaaGreatDoor
