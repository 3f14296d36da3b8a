/- Contracts and laws, joined: La, Lb, Xb, Xl, Ya, Xo, Xj, Bo. No condition beside those that each theorem names. -/
import Derived.Test.YtmohpcgmdheafaaGreatDoorZK6
import Derived.Test.YtmohpcgmdheafaaGreatDoorZK3
set_option linter.unusedVariables false
set_option linter.unusedSimpArgs false
namespace Go.Proofs.YtmohpcgmdheafaaGreatDoor
open Go.Am
attribute [local irreducible] Decidable.decide
set_option maxRecDepth 100000
set_option maxHeartbeats 1000000
def Srt {α:Type} (f:α->Int) (l:List α):Prop:=l.Pairwise (fun x y=>f x<f y)
def RE {α:Type} (f:α->Int) (x:α) (l:List α):List α:=l.filter (fun y=>decide (f y<f x))++x::l.filter (fun y=>decide (f x<f y))
theorem Fj {α:Type} {f:α->Int} {l:List α}:Srt f l↔(l.map f).Pairwise (· < ·):=by rw[List.pairwise_map];rfl
theorem Aao {α:Type} {f:α->Int}: ∀{l m:List α},Srt f l->Srt f m->(∀x,x∈l↔x∈m)->l=m
 |[],[],_,_,_=>rfl
 |[],y::m,_,_,h=>by have:=(h y).2 Ac;simp at this
 |x::l,[],_,_,h=>by have:=(h x).1 Ac;simp at this
 |x::l,y::m,hl,hm,h=>by
  have hl':=List.pairwise_cons.1 hl
  have hm':=List.pairwise_cons.1 hm
  have e:x=y:=by
   have h1:=(h x).1 Ac
   have h2:=(h y).2 Ac
   rcases List.mem_cons.1 h1 with e|h1
   ·exact e
   rcases List.mem_cons.1 h2 with e|h2
   ·exact e.symm
   have:=hl'.1 y h2;have:=hm'.1 x h1;omega
  subst e
  congr 1
  refine Aao hl'.2 hm'.2 fun z=>⟨fun hz=>?_,fun hz=>?_⟩
  ·have hlt:=hl'.1 z hz
   rcases List.mem_cons.1 ((h z).1 (by simp[hz]))with e|h1
   ·subst e;omega
   ·exact h1
  ·have hlt:=hm'.1 z hz
   rcases List.mem_cons.1 ((h z).2 (by simp[hz]))with e|h1
   ·subst e;omega
   ·exact h1
theorem Aan {α:Type} {f:α->Int}: ∀{l:List α},Srt f l-> ∀{x y:α},x∈l->y∈l->f x=f y->x=y
 |z::l,h,x,y,hx,hy,e=>by
  have h':=List.pairwise_cons.1 h
  rcases List.mem_cons.1 hx with e1|h1<;>rcases List.mem_cons.1 hy with e2|h2
  ·rw[e1,e2]
  ·subst e1;have:=h'.1 y h2;omega
  ·subst e2;have:=h'.1 x h1;omega
  ·exact Aan h'.2 h1 h2 e
theorem Xt {α:Type} {f:α->Int} {l:List α} (h:Srt f l) {k:Int} {x:α} (hx:x∈l) (hk:f x=k):l.find? (fun y=>decide (f y=k))=some x:=by
 cases hf:l.find? (fun y=>decide (f y=k))with
 |none=>have:=List.find?_eq_none.1 hf x hx;simp[hk]at this
 |some y=>
  have h1:=List.find?_some hf
  have h2:=List.mem_of_find?_eq_some hf
  rw[Aan h h2 hx (by simpa[hk]using h1)]
theorem Amb {α:Type} {f:α->Int} {l:List α} {k:Int} (h: ∀x∈l,f x≠k):l.find? (fun y=>decide (f y=k))=none:=by
 rw[List.find?_eq_none];intro x hx;simpa using h x hx
theorem Kg {α:Type} {f:α->Int} {x z:α} {l:List α}:z∈RE f x l↔z=x\/(z∈l/\f z≠f x):=by
 simp only[RE,List.mem_append,List.mem_cons,List.mem_filter,decide_eq_true_eq]
 constructor
 ·rintro(⟨h1,h2⟩|rfl|⟨h1,h2⟩)
  ·exact .inr ⟨h1,by omega⟩
  ·exact .inl Y
  ·exact .inr ⟨h1,by omega⟩
 ·rintro(rfl|⟨h1,h2⟩)
  ·exact .inr (.inl Y)
  ·rcases Int.lt_or_gt_of_ne h2 with h3|h3
   ·exact .inl ⟨h1,h3⟩
   ·exact .inr (.inr ⟨h1,h3⟩)
theorem Q8 {α:Type} {f:α->Int} {x:α} {l:List α} (h:Srt f l):Srt f (RE f x l):=by
 unfold RE Srt
 rw[List.pairwise_append,List.pairwise_cons]
 refine⟨h.filter _,⟨fun y hy=>by simpa using(List.mem_filter.1 hy).2,h.filter _⟩,fun a ha b hb=>?_⟩
 have h1:f a<f x:=by simpa using(List.mem_filter.1 ha).2
 rcases List.mem_cons.1 hb with rfl|hb
 ·exact h1
 ·have h2:f x<f b:=by simpa using(List.mem_filter.1 hb).2
  omega
theorem TJ {α:Type} {f:α->Int} {x:α} {l:List α} (h:Srt f l) (k:Int):(RE f x l).find? (fun y=>decide (f y=k))=if f x=k then some x else l.find? (fun y=>decide (f y=k)):=by
 have hs:=Q8 (x:=x) h
 split
 ·rename_i e;exact Xt hs (Kg.2 (.inl Y)) e
 ·rename_i e
  cases hf:l.find? (fun y=>decide (f y=k))with
  |none=>
   refine Amb fun z hz=>?_
   rcases Kg.1 hz with rfl|⟨h1,h2⟩
   ·exact e
   ·have:=List.find?_eq_none.1 hf z h1;simpa using this
  |some y=>
   have h1:f y=k:=by simpa using List.find?_some hf
   exact Xt hs (Kg.2 (.inr ⟨List.mem_of_find?_eq_some hf,by omega⟩)) h1
theorem Vo {α:Type} {f:α->Int} {k:Int} {a b:List α} (ha: ∀x∈a,f x<k) (hb: ∀x∈b,k<=f x):(a++b).filter (fun y=>decide (f y<k))=a/\(a++b).filter (fun y=>decide (k<f y))=b.filter (fun y=>decide (k<f y)):=by
 constructor
 ·rw[List.filter_append,List.filter_eq_self.2 (fun x hx=>by simpa using ha x hx),List.filter_eq_nil_iff.2 (fun x hx=>by have:=hb x hx;simp;omega),List.append_nil]
 ·rw[List.filter_append,List.filter_eq_nil_iff.2 (fun x hx=>by have:=ha x hx;simp;omega),List.nil_append]
theorem Ak3 {α:Type} {f:α->Int} {l:List α} {k:Int} {i:Nat} (h:l.findIdx? (fun y=>decide (f y>=k))=some i):(∀y∈l.take i,f y<k)/\ ∃x,l[i]?=some x/\k<=f x:=by
 obtain⟨hlt,h1,h2⟩:=List.findIdx?_eq_some_iff_getElem.1 h
 refine⟨fun y hy=>?_,l[i],List.getElem?_eq_getElem hlt,by simpa using h1⟩
 obtain⟨j,hj,rfl⟩:=List.mem_take_iff_getElem.1 hy
 have:=h2 j Aa
 simp at this;omega
theorem MD {l:List Prod} (h:Srt Prod.pid l) (p:Prod):Sy l p=RE Prod.pid p l:=by
 unfold Sy
 cases hf:l.findIdx? (fun x=>decide (x.pid>=p.pid))with
 |none=>
  have hn: ∀x∈l,x.pid<p.pid:=fun x hx=>by have:=List.findIdx?_eq_none_iff.1 hf x hx;simp at this;omega
  simp only[S2,List.take_length,List.drop_length,RE]
  rw[List.filter_eq_self.2 (fun x hx=>by simpa using hn x hx),List.filter_eq_nil_iff.2 (fun x hx=>by have:=hn x hx;simp;omega)]
 |some i=>
  obtain⟨h1,x,hx,h2⟩:=Ak3 hf
  have hd:=Db hx
  have hsp:l=l.take i++l.drop i:=(List.take_append_drop i l).symm
  have hs2:Srt Prod.pid (x::l.drop (i+1)):=by rw[<-hd];exact List.Pairwise.sublist (List.drop_sublist i l) h
  have hs3:=(List.pairwise_cons.1 hs2).1
  have hb: ∀y∈l.drop i,p.pid<=y.pid:=fun y hy=>by
   rw[hd]at hy
   rcases List.mem_cons.1 hy with rfl|hy
   ·exact h2
   ·have:=hs3 y hy;omega
  obtain⟨q1,q2⟩:=Vo (f:=Prod.pid) h1 hb
  rw[<-hsp]at q1 q2
  have hall:(l.drop (i+1)).filter (fun y=>decide (p.pid<y.pid))=l.drop (i+1):=List.filter_eq_self.2 fun y hy=>by have:=hs3 y hy;simp;omega
  simp only[hx,Option.map_some,Option.some.injEq,S2,RE]
  rw[q1,q2,hd,List.filter_cons,hall]
  by_cases e:x.pid=p.pid
  ·have: ¬p.pid<x.pid:=by omega
   simp[e]
  ·have:p.pid<x.pid:=by omega
   simp[e,this]
theorem OU: ∀{l:List Prod} {n:Int},EI n l=true↔(∀p∈l,n<p.pid)/\Srt Prod.pid l/\ ∀p∈l,C1 p=true
 |[],n=>by simp[EI,Srt]
 |p::r,n=>by
  simp only[EI,Bool.and_eq_true,decide_eq_true_eq,OU (l:=r),List.mem_cons,Srt,List.pairwise_cons]
  constructor
  ·rintro⟨⟨h1,h2⟩,h3,h4,h5⟩
   exact⟨fun q hq=>hq.elim (fun e=>e▸h1) (fun hq=>by have:=h3 q hq;omega),⟨h3,h4⟩,fun q hq=>hq.elim (fun e=>e▸h2) (h5 q)⟩
  ·rintro⟨h1,⟨h3,h4⟩,h5⟩
   exact⟨⟨h1 p (.inl Y),h5 p (.inl Y)⟩,h3,h4,fun q hq=>h5 q (.inr hq)⟩
theorem GA {p:Prod} (h:C1 p=true):Cx p:=by simp only[C1,Bool.and_eq_true,decide_eq_true_eq]at h;exact h.1
theorem Ep {l:List Prod}:Ef l=true↔Srt Prod.pid l/\ ∀p∈l,C1 p=true:=by
 unfold Ef
 rw[OU]
 exact⟨fun h=>h.2,fun h=>⟨fun p hp=>by have:=GA (h.2 p hp);unfold Cx at this;omega,h⟩⟩
theorem Adv {l:List Prod} {p:Prod} (h:Ef l=true) (hp:C1 p=true):Ef (Sy l p)=true:=by
 obtain⟨h1,h2⟩:=Ep.1 h
 rw[MD h1]
 refine Ep.2 ⟨Q8 h1,fun q hq=>?_⟩
 rcases Kg.1 hq with rfl|⟨h3,_⟩
 ·exact hp
 ·exact h2 q h3
theorem Aee {l:List Prod} {p:Prod} (h:Ef l=true) (k:Int):BM (Sy l p) k=if p.pid=k then p else BM l k:=by
 unfold BM
 rw[MD (Ep.1 h).1,TJ (Ep.1 h).1]
 split<;>rfl
theorem Ow {l:List Prod} {k:Int}:FE l k=(l.find? (fun p=>decide (p.pid=k))).isSome:=by
 unfold FE;rw[Bool.eq_iff_iff,List.find?_isSome,List.any_eq_true]
theorem Aib {l:List Prod} {p:Prod} (h:Ef l=true) (k:Int):FE (Sy l p) k=(decide (p.pid=k)||FE l k):=by
 rw[Ow,Ow,MD (Ep.1 h).1,TJ (Ep.1 h).1]
 split<;>simp[*]
theorem WY {l:List Prod} {k:Int} (h:FE l k=true):BM l k∈l/\(BM l k).pid=k:=by
 rw[Ow]at h
 obtain⟨x,hx⟩:=Option.isSome_iff_exists.1 h
 have h1:BM l k=x:=by simp[BM,hx]
 rw[h1]
 exact⟨List.mem_of_find?_eq_some hx,by simpa using List.find?_some hx⟩
theorem Ss {b:Batch} (hb:A9 b=true):CN b:=by simp only[A9,Bool.and_eq_true,decide_eq_true_eq]at hb;exact hb.1
def Ro (p:Part) (b:Batch):Part:={p with fin:=p.fin+b.recs.length,rows:=p.rows++Cl b p.fin,prods:=Anq p.prods b p.fin}
def Asf (l:List Opn) (b:Batch):Opn:=match l.find? (fun o=>decide (o.pid=b.pid))with
 |some o=>{o with batches:=o.batches++[b]}
 |none=>⟨b.pid,b.epoch,[b]⟩
def Af7 (p:Part) (b:Batch):Part:={p with opens:=RE Opn.pid (Asf p.opens b) p.opens,prods:=Anq p.prods b (-1)}
def CS:Part:=⟨0,0,[],[],[]⟩
def Akm (ps:List Prod) (o:Opn):Prop:=B6 o=true/\FE ps o.pid=true/\(BM ps o.pid).epoch=o.epoch/\(BM ps o.pid).next=Hj o.batches
structure POk (p:Part):Prop where
 b0:0<=p.start
 b1:p.start<=p.fin
 b2:p.fin<=1048576
 srt:Srt Row.offset p.rows
 rin: ∀r∈p.rows,p.start<=r.offset/\r.offset<p.fin
 osrt:Srt Opn.pid p.opens
 rok: ∀r∈p.rows,EM r=false
 may:Ef p.prods=true
 ook: ∀o∈p.opens,Akm p.prods o
theorem BU {o:Opn} (h:B6 o=true):1<=o.batches.length/\o.batches.length<=8:=by
 simp only[B6,Bool.and_eq_true,decide_eq_true_eq]at h;exact h.1
theorem Dq {p:Part}:Bb p=true↔POk p:=by
 simp only[Bb,FQ,DR,Bool.and_eq_true,decide_eq_true_eq,Bool.not_eq_true',Dv,List.all_eq_true,List.any_eq_false,CT,JW]
 constructor
 ·rintro⟨⟨⟨⟨h0,h1,h2⟩,h3,h4,h5,h6⟩,h7,h8⟩,h9⟩
  exact⟨h0,h1,h2,Fj.2 h3,h4,Fj.2 h5,fun r hr=>by simpa using h7 r hr,h8,fun o ho=>h9 o ho⟩
 ·rintro⟨h0,h1,h2,h3,h4,h5,h7,h8,h9⟩
  refine⟨⟨⟨⟨h0,h1,h2⟩,Fj.1 h3,h4,Fj.1 h5,fun o ho=>?_⟩,fun r hr=>by simpa using h7 r hr,h8⟩,fun o ho=>h9 o ho⟩
  have:=(BU (h9 o ho).1).1
  intro he
  rw[List.isEmpty_iff]at he
  simp[he]at this
theorem Wl {b:Batch} {off:Int} {r:Row} (h:r∈Cl b off): ∃(i:Nat) (x:Rec),b.recs[i]?=some x/\r=Hc b off i x:=by
 obtain⟨i,hi,rfl⟩:=List.mem_iff_getElem.1 h
 simp only[Cl,List.length_mapIdx]at hi
 exact⟨i,b.recs[i],List.getElem?_eq_getElem hi,by simp[Cl]⟩
theorem Agx {b:Batch} {off:Int}:(Cl b off).length=b.recs.length:=by simp[Cl]
theorem Agw {b:Batch} {off:Int} (h:0<=off):Srt Row.offset (Cl b off):=by
 unfold Srt
 rw[List.pairwise_iff_getElem]
 intro i j hi hj hij
 have h1: ∀k (hk:k<(Cl b off).length),((Cl b off)[k]'hk).offset=off+k:=fun k hk=>by
  simp only[Cl,List.getElem_mapIdx,Hc];rw[if_neg Aa]
 rw[h1 i hi,h1 j hj];omega
theorem Alg {b:Batch} (hb:A9 b=true) {off:Int} {r:Row} (h:r∈Cl b off):EM r=false:=by
 obtain⟨i,x,hx,rfl⟩:=Wl h
 have hm:=Co hb
 have hbb:=Ss hb
 unfold CN at hbb
 have hlt:=(List.getElem?_eq_some_iff.1 hx).1
 have hr:Ix x=true:=by
  simp only[A9,Bool.and_eq_true]at hb
  exact List.all_eq_true.1 hb.2 x (List.mem_of_getElem? hx)
 simp only[Ix,Bool.and_eq_true,decide_eq_true_eq]at hr
 simp only[EM,Hc]
 refine decide_eq_false ?_
 omega
def DO (p:Part) (pid:Int):Bool:=p.opens.any fun o=>decide (o.pid=pid)
def AH (i:Image) (pid:Int):List Int:=(if DO i.p0 pid=true then[0]else[])++((if DO i.p1 pid=true then[1]else[])++(if DO i.p2 pid=true then[2]else[]))
def Dw (m:MState) (o:Opn):Bool:=
 match ofM m o.pid with
 |some t=>decide ((Av m t).epoch=o.epoch)
 |none=>false
def Rp (i:Image):Bool:=
 (decide (i.m.t0.parts=AH i i.m.t0.pid)&&(decide (i.m.t1.parts=AH i i.m.t1.pid)&&decide (i.m.t2.parts=AH i i.m.t2.pid)))
  &&(i.p0.opens.all (Dw i.m)&&(i.p1.opens.all (Dw i.m)&&i.p2.opens.all (Dw i.m)))
def C8 (i:Image):Bool:=decide (i.tag=0\/i.tag=1)&&(BQ i.m&&((Bb i.p0&&(Bb i.p1&&Bb i.p2))&&Rp i))
def AX (i:Image) (q:Int):Part:=if q=0 then i.p0 else if q=1 then i.p1 else i.p2
def UE (i:Image) (q:Int) (p:Part):Image:=if q=0 then{i with p0:=p}else if q=1 then{i with p1:=p}else{i with p2:=p}
def As0:Image:=⟨0,CS,CS,CS,Alu⟩
end Go.Proofs.YtmohpcgmdheafaaGreatDoor
namespace Go.Proofs.YtmohpcgmdheafaaGreatDoor
open Go.Am
attribute [local irreducible] Decidable.decide Tr A2 hSK hSW
set_option maxRecDepth 100000
set_option maxHeartbeats 1000000
def okM (s:MState) (t:Int):Bool:=if t=0 then Bp s.t0&&decide (s.t0.pid<=s.made)else if t=1 then(Bp s.t1&&decide (s.t1.pid<=s.made))&&EA s.t1 s.t0 else(Bp s.t2&&decide (s.t2.pid<=s.made))&&(EA s.t2 s.t0&&EA s.t2 s.t1)
def grM (s:MState):Bool:=Gz s.g00&&(Gz s.g01&&(Gz s.g02&&(Gz s.g10&&(Gz s.g11&&Gz s.g12))))
theorem Kj (s:MState):BQ s=(decide (0<=s.made/\s.made<=8)&&((okM s 0&&(okM s 1&&okM s 2))&&grM s)):=by
 unfold BQ okM grM
 simp only[Int.reduceEq,if_true,if_false]
 ac_rfl
theorem Oh {s:MState} {t:Int} (ht:t=0\/t=1\/t=2) (h:okM s t=false):BQ s=false:=by
 rw[Kj];rcases ht with rfl|rfl|rfl<;>simp[h]
set_option maxHeartbeats 8000000 in
theorem EP (s:MState) (h0:SmallC s.t0) (h1:SmallC s.t1) (h2:SmallC s.t2):A17 28 [.agg (Ah (A6 s))] [] (.t (.bool (BQ s))) []:=by
 have c0:=JO s.t0 h0
 have c1:=JO s.t1 h1
 have c2:=JO s.t2 h2
 have e0:okM s 0=(Bp s.t0&&decide (s.t0.pid<=s.made)):=rfl
 have e1:okM s 1=((Bp s.t1&&decide (s.t1.pid<=s.made))&&EA s.t1 s.t0):=rfl
 have e2:okM s 2=((Bp s.t2&&decide (s.t2.pid<=s.made))&&(EA s.t2 s.t0&&EA s.t2 s.t1)):=rfl
 unfold EA at e1 e2
 generalize Bp s.t0=M0 at c0 e0
 generalize Bp s.t1=M1 at c1 e1
 generalize Bp s.t2=M2 at c2 e2
 have hw0:IntKind.i64.wrap (0+1)=1:=by decide+kernel
 have hw1:IntKind.i64.wrap (1+1)=2:=by decide+kernel
 have hw2:IntKind.i64.wrap (2+1)=3:=by decide+kernel
 have hc0:List.take 0 (Bq Qw.size 3 (List.take (3*Qw.size) (List.drop 1 (A6 s))))=[]:=rfl
 have hc1:List.take 1 (Bq Qw.size 3 (List.take (3*Qw.size) (List.drop 1 (A6 s))))=[A4 s.t0]:=rfl
 have hc2:List.take 2 (Bq Qw.size 3 (List.take (3*Qw.size) (List.drop 1 (A6 s))))=[A4 s.t0,A4 s.t1]:=rfl
 refine ct0 Ag Tryz.func28 Y false Y Y ?_
 refine Ik ?_
 refine L4 Ag Y Y ?_
 repeat'(first|exact prB|refine stA ?_|refine stU (fun h=>?_) fun h=>?_|refine stN (fun b hb=>?_)|fail)
 refine A12 (cs:=A6 s) 1 2 Y Y Y Y ?_
 by_cases hmd:0<=s.made/\s.made<=8
 case neg=>
  have e:BQ s=false:=by rw[Kj,decide_eq_false hmd,Bool.false_and]
  rw[e]
  repeat'(first|exact prB|refine stC ?_|refine stU (fun h=>?_) fun h=>?_|refine stN (fun b hb=>?_)|fail)
  all_goals first
   |exact Ai Y (A1y Y)
   |(exfalso;omega)
 repeat'(first|exact prB|refine stC ?_|refine stU (fun h=>?_) fun h=>?_|refine stN (fun b hb=>?_)|fail)
 all_goals try(exfalso;omega)
 refine A3 (ι:=Int) (fun t=>(t=0\/t=1\/t=2\/t=3)/\ ∀j,0<=j->j<t->okM s j=true) (fun t=>[(1,.t (.ptr (A6 s))),(20,.agg (Ah (A4 s.t0++(A4 s.t1++A4 s.t2)))),(21,.t (.int .i64 t))]) (fun _=>[]) (fun t=>(3-t).toNat) 0 ⟨.inl Y,fun j _ _=>by omega⟩ ?_ ?_
 ·exact AE [] (Af Y Y (Af Y Y (Af Y Y Aj))) Y
 rintro t ⟨ht,hok⟩
 rcases ht with rfl|rfl|rfl|rfl
 ·repeat'(first|exact prB|refine stC ?_|refine stU (fun h=>?_) fun h=>?_|refine stN (fun b hb=>?_)|refine Mq Ag Y Y Y Y Y Y (Nat.le_of_ble_eq_true Y) (Nat.succ_ne_zero _) Y (Nat.le_of_ble_eq_true Y) Y ?_|refine stL ?_ (c:=c0)|refine AN 5 ?_|refine AQ ?_|rw[hw0]|rw[hw1]|rw[hw2]|rw[hc0]|rw[hc1]|rw[hc2]|refine G5 (kc:=0) Ag Y Y Y Y Y Y Y Y Y ?_|refine G5 (kc:=1) Ag Y Y Y Y Y Y Y Y Y ?_|fail)
  all_goals first
   |(exfalso;(first|rw[hw0]at h|rw[hw1]at h|skip);(first|rw[hc0]at h|rw[hc1]at h|rw[hc2]at h|skip);simp at h;done)
   |(refine Ai Y (A1y ?_);rw[Oh (s:=s) (t:=0) Ac (by rw[e0];first|(simp_all;done)|(simp_all;omega))];done)
   |(refine Ay 1 ⟨by simp,fun j h1 h2=>?_⟩ Ae [4,6] (Af Y Y (Af Y Y (Af Y (by first|rfl|rw[hw0]) Aj))) Y
     by_cases e:j=0
     ·subst e;rw[e0];simp_all;try omega
     ·exact hok j h1 Aa)
 ·repeat'(first|exact prB|refine stC ?_|refine stU (fun h=>?_) fun h=>?_|refine stN (fun b hb=>?_)|refine Mq Ag Y Y Y Y Y Y (Nat.le_of_ble_eq_true Y) (Nat.succ_ne_zero _) Y (Nat.le_of_ble_eq_true Y) Y ?_|refine stL ?_ (c:=c1)|refine AN 5 ?_|refine AQ ?_|rw[hw0]|rw[hw1]|rw[hw2]|rw[hc0]|rw[hc1]|rw[hc2]|refine G5 (kc:=0) Ag Y Y Y Y Y Y Y Y Y ?_|refine G5 (kc:=1) Ag Y Y Y Y Y Y Y Y Y ?_|fail)
  all_goals first
   |(exfalso;(first|rw[hw0]at h|rw[hw1]at h|skip);(first|rw[hc0]at h|rw[hc1]at h|rw[hc2]at h|skip);simp at h;done)
   |(refine Ai Y (A1y ?_);rw[Oh (s:=s) (t:=1) Ac (by rw[e1];first|(simp_all;done)|(simp_all;omega))];done)
   |(refine Ay 2 ⟨by simp,fun j h1 h2=>?_⟩ Ae [4,6] (Af Y Y (Af Y Y (Af Y (by first|rfl|rw[hw1]) Aj))) Y
     by_cases e:j=1
     ·subst e;rw[e1];simp_all;try omega
     ·exact hok j h1 Aa)
 ·repeat'(first|exact prB|refine stC ?_|refine stU (fun h=>?_) fun h=>?_|refine stN (fun b hb=>?_)|refine Mq Ag Y Y Y Y Y Y (Nat.le_of_ble_eq_true Y) (Nat.succ_ne_zero _) Y (Nat.le_of_ble_eq_true Y) Y ?_|refine stL ?_ (c:=c2)|refine AN 5 ?_|refine AQ ?_|rw[hw0]|rw[hw1]|rw[hw2]|rw[hc0]|rw[hc1]|rw[hc2]|refine G5 (kc:=0) Ag Y Y Y Y Y Y Y Y Y ?_|refine G5 (kc:=1) Ag Y Y Y Y Y Y Y Y Y ?_|fail)
  all_goals first
   |(exfalso;(first|rw[hw0]at h|rw[hw1]at h|skip);(first|rw[hc0]at h|rw[hc1]at h|rw[hc2]at h|skip);simp at h;done)
   |(refine Ai Y (A1y ?_);rw[Oh (s:=s) (t:=2) Ac (by rw[e2];first|(simp_all;done)|(simp_all;omega))];done)
   |(refine Ay 3 ⟨by simp,fun j h1 h2=>?_⟩ Ae [4,6] (Af Y Y (Af Y Y (Af Y (by first|rfl|rw[hw2]) Aj))) Y
     by_cases e:j=2
     ·subst e;rw[e2];simp_all;try omega
     ·exact hok j h1 Aa)
 ·have q0:=hok 0 Aa Aa
  have q1:=hok 1 Aa Aa
  have q2:=hok 2 Aa Aa
  rw[Kj,decide_eq_true hmd,q0,q1,q2]
  simp only[Bool.true_and]
  unfold grM Gz
  clear e0 e1 e2 c0 c1 c2 hok q0 q1 q2
  repeat'(first|exact prB|refine stC ?_|refine stU (fun h=>?_) fun h=>?_|refine stN (fun b hb=>?_)|refine AN 5 ?_|refine AQ ?_|rw[hw0]|rw[hw1]|rw[hw2]|fail)
  all_goals first
   |(exfalso;omega)
   |(refine Ai Y (AP ?_);simp_all;done)
   |(refine Ai Y (AP ?_);simp_all;omega)
def egN:Nat->List T->Bool:=fun _ _=>false
theorem Vv: ∀gf caps,egN gf caps=true->VD Tryz.prog gf caps:=by intro gf caps h;cases h
theorem Amy {P:Program} {c:Conf} {eg:Nat->List T->Bool} (hp:ProgOk P c) (heg: ∀gf caps,eg gf caps=true->VD P gf caps) (d:Nat) {f:Nat} {xs:List AV} {r:AV} (hr:r.free=true) (hx: ∀b,r.has b=false) (h:(Uj P c eg d f xs []).map (·.1)=some r):Ct P f xs [] r []:=by
 cases hc:Uj P c eg d f xs []with
 |none=>rw[hc]at h;cases h
 |some q=>
  obtain⟨r2,σ2⟩:=q
  rw[hc]at h
  simp at h
  subst h
  obtain⟨e,s,hz⟩:=Jr (r:=r2) hx σ2 [] σ2
  exact Ct.freeze (Py hp heg d _ _ _ _ _ hc) hz hr
def e3 (tid:Int) (yes:Bool) (thn:Int):MEntry:={KZ 3 with tid:=tid,yes:=yes,thn:=thn}
def e4 (tid:Int):MEntry:={KZ 4 with tid:=tid}
theorem CZ:SmallC BD:=⟨by simp[BD],by simp[BD]⟩
theorem Ah3 (e:MEntry) (hc:SmallC e.c):A17 204 [.agg (Ah (Ax e)),.agg (Ah (Ax e))] [] (.t (.bool true)) []:=by
 have cs:=SU e.c e.c hc
 rw[decide_eq_true Y]at cs
 refine ct0 Ag Tryz.func204 Y false Y Y ?_
 repeat'(first|exact prB|refine stC ?_|refine stU (fun h=>?_) fun h=>?_|refine stN (fun b hb=>?_)|refine stL ?_ (c:=cs)|fail)
 all_goals first
  |(exfalso;simp_all;done)
  |exact Ai Y (AP (by simp_all))
def Ac8 (k tid:Int) (yes:Bool) (thn:Int):List T:=[.int .i8 k,.int .i64 tid,.int .i64 0,.int .i64 0,.int .i64 0,.int .i64 0,.bool yes,.int .i64 thn,.int .i8 0,.int .i64 0,.int .i64 0,.int .i64 0,.int .i64 0,.slice .nil 0 [],.slice .nil 0 [],.int .i64 0,.int .i64 0]
theorem QW (tid:Int) (yes:Bool) (thn:Int):Sub (.agg (Ah (Ac8 3 tid yes thn))) (.agg (Ah (Ax (e3 tid yes thn)))):=AA (show DU _ _ from⟨A1x _,A1x _,A1x _,A1x _,A1x _,A1x _,A1x _,A1x _,A1x _,A1x _,A1x _,A1x _,A1x _,Ak,Ak,A1x _,A1x _,trivial⟩)
theorem QV (tid:Int):Sub (.agg (Ah (Ac8 4 tid false 0))) (.agg (Ah (Ax (e4 tid)))):=AA (show DU _ _ from⟨A1x _,A1x _,A1x _,A1x _,A1x _,A1x _,A1x _,A1x _,A1x _,A1x _,A1x _,A1x _,A1x _,Ak,Ak,A1x _,A1x _,trivial⟩)
def A02 (tid:Int) (yes:Bool) (thn:Int):List T:=[.int .i8 3,.int .i64 tid,.int .i64 0,.int .i64 0,.int .i64 0,.int .i64 0,.bool yes,.int .i64 thn,.int .i8 0,.int .i64 0,.int .i64 0,.int .i64 0,.int .i64 0,.slice .any 1 [],.slice .any 3 [],.int .i64 0,.int .i64 0]
def Ayp (tid:Int):List T:=[.int .i8 4,.int .i64 tid,.int .i64 0,.int .i64 0,.int .i64 0,.int .i64 0,.bool false,.int .i64 0,.int .i8 0,.int .i64 0,.int .i64 0,.int .i64 0,.int .i64 0,.slice .any 1 [],.slice .any 3 [],.int .i64 0,.int .i64 0]
theorem HN (tid:Int) (yes:Bool) (thn:Int):Ax (e3 tid yes thn)=A02 tid yes thn:=rfl
theorem Fr (tid:Int):Ax (e4 tid)=Ayp tid:=rfl
theorem Ace {n:Int} (h:0<=n/\n<=20):n=0\/n=1\/n=2\/n=3\/n=4\/n=5\/n=6\/n=7\/n=8\/n=9\/n=10\/n=11\/n=12\/n=13\/n=14\/n=15\/n=16\/n=17\/n=18\/n=19\/n=20:=by omega
theorem BB {tid:Int} (h:0<=tid/\tid<3):tid=0\/tid=1\/tid=2:=by omega
theorem Abb (tid:Int) (yes:Bool) (thn:Int) (h1:0<=tid/\tid<3) (h2:(0<=thn/\thn<=20)/\(yes=true->thn=0)):A17 128 [.agg (Ah (Ax (e3 tid yes thn)))] [] (.t (.bool true)) []:=by
 cases yes with
 |true=>
  have h0:thn=0:=h2.2 Y
  subst h0
  rcases BB h1 with rfl|rfl|rfl<;>exact Amy Ag Vv 9 Y (fun _=>rfl) Ab
 |false=>
  rcases Ace h2.1 with rfl|rfl|rfl|rfl|rfl|rfl|rfl|rfl|rfl|rfl|rfl|rfl|rfl|rfl|rfl|rfl|rfl|rfl|rfl|rfl|rfl<;>rcases BB h1 with rfl|rfl|rfl<;>exact Amy Ag Vv 9 Y (fun _=>rfl) Ab
theorem Aba (tid:Int) (h1:0<=tid/\tid<3):A17 128 [.agg (Ah (Ax (e4 tid)))] [] (.t (.bool true)) []:=by
 rcases BB h1 with rfl|rfl|rfl<;>exact Amy Ag Vv 9 Y (fun _=>rfl) Ab
set_option maxHeartbeats 2000000 in
theorem Ve (s:MState) (h0:SmallC s.t0) (h1:SmallC s.t1) (h2:SmallC s.t2):A17 129 [.agg (Ah (A6 s))] [] (.agg (Ah (A6 s))) []:=by
 have i0:=IE s.t0.parts h0.parts
 have i1:=IE s.t1.parts h1.parts
 have i2:=IE s.t2.parts h2.parts
 have p0:=GH s.t0.pends h0.pends
 have p1:=GH s.t1.pends h1.pends
 have p2:=GH s.t2.pends h2.pends
 have hw0:IntKind.i64.wrap (0+1)=1:=by decide+kernel
 have hw1:IntKind.i64.wrap (1+1)=2:=by decide+kernel
 have hw2:IntKind.i64.wrap (2+1)=3:=by decide+kernel
 refine ct0 Ag Tryz.func129 Y false Y Y ?_
 repeat'(first|exact prB|refine stC ?_|refine stU (fun h=>?_) fun h=>?_|refine stN (fun b hb=>?_)|refine stL ?_ (c:=i0)|refine stL ?_ (c:=i1)|refine stL ?_ (c:=i2)|refine stL ?_ (c:=p0)|refine stL ?_ (c:=p1)|refine stL ?_ (c:=p2)|refine AN 5 ?_|refine AQ ?_|rw[hw0]|rw[hw1]|rw[hw2]|fail)
 exact Ai Y (A1y Y)
theorem SV (c:Coord) (hc:SmallC c) (yes:Bool) (thn:Int):A17 14 [.agg (Ah (A4 c)),.t (.bool yes),.t (.int .i64 thn)] [] (.tuple [.agg (Ah (A4 (C9 c yes thn))),.t (.int .i64 (Cb c yes thn))]) []:=by
 cases yes
 ·exact U7 c hc thn
 ·exact VV c hc thn
structure SmallM (s:MState):Prop where
 t0:SmallC s.t0
 t1:SmallC s.t1
 t2:SmallC s.t2
theorem SmallM.tid {s:MState} (h:SmallM s) (t:Int):SmallC (Av s t):=by
 unfold Av;repeat' split
 ·exact h.t0
 ·exact h.t1
 ·exact h.t2
theorem Fk: ∀(l:List Pend) (s:MState) (p:Pend),BI s (l++[p])=IY (BI s l) p.group p.part p.offset
 |[],_,_=>rfl
 |a::r,s,p=>Fk r _ p
def D4 (s:MState) (tid:Int):MState:=if(Av s tid).state=3 then BI (AO s tid (Cd (Av s tid))) (Av s tid).pends else AO s tid (Cd (Av s tid))
theorem Jk {p:Pend} (h:Cc p=true):(p.group=0\/p.group=1)/\(p.part=0\/p.part=1\/p.part=2):=by
 simp only[Cc,decide_eq_true_eq]at h;omega
theorem Acj {c:Coord} (h:SmallC c) (yes:Bool) (thn:Int):SmallC (C9 c yes thn):=by
 unfold C9;split
 ·exact CZ
 ·exact⟨h.parts,h.pends⟩
theorem QB (c:Coord):SmallC (Cd c):=by
 unfold Cd;split
 ·exact CZ
 ·split<;>exact⟨by simp,by simp⟩
theorem SmallM.set {s:MState} (h:SmallM s) (t:Int) {c:Coord} (hc:SmallC c):SmallM (AO s t c):=by
 unfold AO;repeat' split
 ·exact⟨hc,h.t1,h.t2⟩
 ·exact⟨h.t0,hc,h.t2⟩
 ·exact⟨h.t0,h.t1,hc⟩
theorem SmallM.grp {s:MState} (h:SmallM s) (g q n:Int):SmallM (IY s g q n):=by
 unfold IY;repeat' split
 all_goals exact⟨h.t0,h.t1,h.t2⟩
theorem SmallM.pends: ∀(l:List Pend) {s:MState},SmallM s->SmallM (BI s l)
 |[],_,h=>h
 |_::r,_,h=>SmallM.pends r (h.grp _ _ _)
theorem SmallM.compl {s:MState} (h:SmallM s) (t:Int):SmallM (D4 s t):=by
 unfold D4;split
 ·exact SmallM.pends _ (h.set t (QB _))
 ·exact h.set t (QB _)
def ofR:Option Int->AV
 |some i=>.tuple [.t (.int .i64 i),.t (.bool true)]
 |none=>.tuple [.t (.int .i64 0),.t (.bool false)]
set_option maxHeartbeats 2000000 in
theorem KY (s:MState) (pid:Int):A17 68 [.agg (Ah (A6 s)),.t (.int .i64 pid)] [] (ofR (ofM s pid)) []:=by
 have hw0:IntKind.i64.wrap (0+1)=1:=by decide+kernel
 have hw1:IntKind.i64.wrap (1+1)=2:=by decide+kernel
 have hw2:IntKind.i64.wrap (2+1)=3:=by decide+kernel
 refine ct0 Ag Tryz.func68 Y false Y (by unfold ofR;split<;>rfl) ?_
 repeat'(first|exact prB|refine stC ?_|refine stU (fun h=>?_) fun h=>?_|refine stN (fun b hb=>?_)|refine AN 5 ?_|refine AQ ?_|simp only[hw0,hw1,hw2]|fail)
 all_goals first
  |exact Ai Y (A1y (by simp[ofR,ofM,TC,Av, *]<;>rfl))
  |exact⟨.inr trivial,_,_,Y,A1y (by simp[ofR,ofM,TC,Av, *]<;>rfl)⟩
end Go.Proofs.YtmohpcgmdheafaaGreatDoor
namespace Go.Am
def eqR (f:AV->AV->Option Bool) (te:TE) (e sz:Nat) (xs ys:List AV):List Nat->Option Bool
 |[]=>some true
 |i::r=>match OR te e (i*sz) xs with
  |some p=>match OR te e (i*sz) ys with
   |some q=>match f p q with
    |some b=>match eqR f te e sz xs ys r with
     |some b'=>some (b&&b')
     |none=>none
    |none=>none
   |none=>none
  |none=>none
def Aiv (te:TE):Nat->Nat->AV->AV->Option Bool
 |0,_,_,_=>none
 |d+1,t,p,q=>match look te t with
  |some ⟨_,_,_,.array n e⟩=>(match p,q with
   |.agg xs,.agg ys=>(match look te e with
    |some ei=>eqR (Aiv te d e) te e ei.size xs ys (List.range n)
    |none=>none)
   |_,_=>none)
  |_=>eqA te (d+1) t p q
section
variable {P:Program} {te:TE} {w:World} {g:G}
def Hw (f:Value->Value->Sem Bool) (e c:Nat) (xs ys:Array Value):List Nat->Sem Bool
 |[]=>pure true
 |i::is=>do
  let a<-part e xs (i*c)
  let b<-part e ys (i*c)
  let r<-f a b
  if(!r)=true then pure false else Hw f e c xs ys is
def Hs (f:Value->Value->Sem Bool) (e c:Nat) (xs ys:Array Value):List Nat->Sem Bool
 |[]=>pure false
 |i::is=>do
  let a<-part e xs (i*c)
  let b<-part e ys (i*c)
  let r<-f a b
  if r=true then pure true else Hs f e c xs ys is
theorem P8 (w:World) (d:Nat) {t e n c:Nat} (xs ys:Array Value) (hu: ∀w,(underlying t).run P w=.ok (.array n e) w) (hi: ∀w,(sizeOf e).run P w=.ok c w):
  (Op.equalIn (d+1) t (.agg xs) (.agg ys)).run P w=(Hw (Op.equalIn d e) e c xs ys (List.range n)).run P w:=by
 simp only[Op.equalIn,Sem.run_bind,hu,Result.andThen_ok,hi]
 simp only[Std.Legacy.Range.forIn_eq_forIn_range',Std.Legacy.Range.size,Nat.sub_zero,Nat.add_one_sub_one,Nat.div_one,List.range_eq_range']
 generalize List.range' 0 n=is
 induction is generalizing w with
 |nil=>simp[Hw]
 |cons j is ih=>
  simp only[List.forIn_cons,Hw,Sem.run_bind]
  generalize(part e xs (j*c)).run P w=r1
  cases r1 with
  |ok a w1=>
   simp only[Result.andThen_ok]
   generalize(part e ys (j*c)).run P w1=r2
   cases r2 with
   |ok b w2=>
    simp only[Result.andThen_ok]
    generalize(Op.equalIn d e a b).run P w2=r3
    cases r3 with
    |ok r w3=>
     cases r
     ·simp only[Result.andThen_ok,Bool.not_false,if_true,Sem.run_pure]
     ·simp only[Result.andThen_ok,Bool.not_true,Bool.false_eq_true,if_false,Sem.run_pure]
      exact ih w3
    |halt x w3=>simp[Result.andThen]
   |halt x w2=>simp[Result.andThen]
  |halt x w1=>simp[Result.andThen]
theorem P7 (w:World) (d:Nat) {t e n c:Nat} (xs ys:Array Value) (hu: ∀w,(underlying t).run P w=.ok (.array n e) w) (hi: ∀w,(sizeOf e).run P w=.ok c w):
  (Op.eqGuardIn (d+1) t (.agg xs) (.agg ys)).run P w=(Hs (Op.eqGuardIn d e) e c xs ys (List.range n)).run P w:=by
 simp only[Op.eqGuardIn,Sem.run_bind,hu,Result.andThen_ok,hi]
 simp only[Std.Legacy.Range.forIn_eq_forIn_range',Std.Legacy.Range.size,Nat.sub_zero,Nat.add_one_sub_one,Nat.div_one,List.range_eq_range']
 generalize List.range' 0 n=is
 induction is generalizing w with
 |nil=>simp[Hs]
 |cons j is ih=>
  simp only[List.forIn_cons,Hs,Sem.run_bind]
  generalize(part e xs (j*c)).run P w=r1
  cases r1 with
  |ok a w1=>
   simp only[Result.andThen_ok]
   generalize(part e ys (j*c)).run P w1=r2
   cases r2 with
   |ok b w2=>
    simp only[Result.andThen_ok]
    generalize(Op.eqGuardIn d e a b).run P w2=r3
    cases r3 with
    |ok r w3=>
     cases r
     ·simp only[Result.andThen_ok,Bool.false_eq_true,if_false,Sem.run_pure]
      exact ih w3
     ·simp only[Result.andThen_ok,if_true,Sem.run_pure]
    |halt x w3=>simp[Result.andThen]
   |halt x w2=>simp[Result.andThen]
  |halt x w1=>simp[Result.andThen]
theorem Abo (hte:CX P te) {f:AV->AV->Option Bool} {D e c:Nat}
  (hf: ∀p q b u v,f p q=some b->Rel w g u p->Rel w g v q->(Op.equalIn D e u v).run P w=.ok b w/\(Op.eqGuardIn D e u v).run P w=.ok false w)
  {vs us:List Value} {xs ys:List AV} (hx:Bt w g vs xs) (hy:Bt w g us ys): ∀(l:List Nat) (b:Bool),
  eqR f te e c xs ys l=some b->
  (Hw (Op.equalIn D e) e c vs.toArray us.toArray l).run P w=.ok b w/\(Hs (Op.eqGuardIn D e) e c vs.toArray us.toArray l).run P w=.ok false w
 |[],b,h=>by simp[eqR]at h;subst h;simp[Hw,Hs]
 |i::r,b,h=>by
  simp only[eqR]at h
  split at h
  ·rename_i p hp
   split at h
   ·rename_i q hq
    split at h
    ·rename_i b1 hb1
     split at h
     ·rename_i b2 hb2
      simp at h;subst h
      obtain⟨z,z1,z2⟩:=Iu hte hp hx
      obtain⟨z',z3,z4⟩:=Iu hte hq hy
      obtain⟨k1,k2⟩:=hf _ _ _ _ _ hb1 z2 z4
      obtain⟨j1,j2⟩:=Abo hte hf hx hy r b2 hb2
      constructor
      ·simp only[Hw,Sem.run_ite,Sem.run_bind,z1,z3,k1,Result.andThen_ok]
       cases b1<;>simp[j1]
      ·simp only[Hs,Sem.run_ite,Sem.run_bind,z1,z3,k2,Result.andThen_ok]
       simp[j2]
     ·simp at h
    ·simp at h
   ·simp at h
  ·simp at h
theorem X2 (hte:CX P te): ∀(d D t:Nat) (p q:AV) (b:Bool) (u v:Value),Aiv te d t p q=some b->Rel w g u p->Rel w g v q->d<=D->
  (Op.equalIn D t u v).run P w=.ok b w/\(Op.eqGuardIn D t u v).run P w=.ok false w
 |0,_,_,_,_,_,_,_,h,_,_,_=>by simp[Aiv]at h
 |d+1,0,_,_,_,_,_,_,_,_,_,hD=>by omega
 |d+1,D+1,t,p,q,b,u,v,h,hp,hq,hD=>by
  simp only[Aiv]at h
  split at h
  ·rename_i i1 i2 i3 n e hl
   have hu:=fun w=>F8 (hte _ _ hl) w Y
   split at h
   ·rename_i xs ys
    split at h
    ·rename_i ei he
     have hsz:=fun w=>BT (hte _ _ he) w
     cases hp with
     |agg vs _ h1 r1=>
     cases hq with
     |agg us _ h2 r2=>
     obtain⟨j1,j2⟩:=Abo (P:=P) hte (D:=D) (fun p q b u v h hp hq=>X2 hte d D e p q b u v h hp hq Aa) (⟨h1,r1⟩:Bt w g vs xs) (⟨h2,r2⟩:Bt w g us ys) (List.range n) b h
     rw[P8 w D _ _ hu hsz,P7 w D _ _ hu hsz]
     exact⟨j1,j2⟩
    ·simp at h
   ·simp at h
  ·exact Vt hte (d+1) (D+1) t p q b u v h hp hq hD
end
section
variable {P:Program} {c:Conf} {n:Nat} {ops:Array Oper} {rest:List Oper} {env:Env} {σ:St} {o:Oper} {k:Env->St->Prop}
theorem Ars (hp0:ProgOk P c) {t yt:Nat} {x y:Operand} {op:BinOp} {xs ys:List AV} {b:Bool} {r:T} {e2:Env} (hg:o.guard=none) (ho:o.op=.binOp op t x y yt) (hx:ev env x=some (.agg xs)) (hy:ev env y=some (.agg ys))
  (he:Aiv c.te 8 t (.agg xs) (.agg ys)=some b) (hr:O7 op b=some r) (hp:B4 n o.dst (.t r) env=some e2) (hK:A2 P n ops rest e2 σ k):A2 P n ops (o::rest) env σ k:=by
 simp only[A2,AL,hg]
 intro w g a hin hee
 have hte:=hp0.te
 have hu:=AG hee hx
 have hv:=AG hee hy
 obtain⟨k1,k2⟩:=X2 (P:=P) hte 8 (9999+1) t _ _ b (a.eval x) (a.eval y) he hu hv Aa
 generalize hex:a.eval x=u at hu k1 k2
 generalize hey:a.eval y=v at hv k1 k2
 obtain⟨us,hus⟩: ∃us,u=.agg us:=by cases hu;exact⟨_,Y⟩
 obtain⟨ws,hws⟩: ∃ws,v=.agg ws:=by cases hv;exact⟨_,Y⟩
 subst hus;subst hws
 have hgd: ∀op,(eqGuard op t x y (.agg us) (.agg ws)).run P w=.ok () w:=by
  intro op
  have k3:(Op.eqGuardIn 10000 t (.agg us) (.agg ws)).run P w=.ok false w:=k2
  cases op<;>simp[eqGuard,Op.maxDepth,k3]
 obtain⟨z,hz,hzr⟩: ∃z,(binOp op t (.agg us) (.agg ws)).run P w=.ok z w/\RelT w g.M z r:=by
  rcases Ek (w:=w) (M:=g.M) hr with⟨rfl,hr'⟩|⟨rfl,hr'⟩
  ·exact⟨_,Fy k1 Y,hr'⟩
  ·exact⟨_,H8 k1 Y,hr'⟩
 refine BJ.value (v:=z) (w':=w) ?_ ⟨_,env,σ,⟨g,A1t _ _,.t _ _ hzr,hin,hee⟩,e2,hp,hK⟩
 simp only[execOp,ho,Sem.run_bind,hex,hey,hgd,hz,Result.andThen_ok,Sem.run_pure]
end
end Go.Am
