/- Contracts and laws, joined: Ni, Nj. No condition beside those that each theorem names. -/
import Derived.Test.YtmohpcgmdheafaaGreatDoorZK13
set_option linter.unusedVariables false
set_option linter.unusedSimpArgs false
set_option maxRecDepth 100000
set_option maxHeartbeats 8000000
namespace Go.Proofs.YtmohpcgmdheafaaGreatDoor
open Go.Am
attribute [local irreducible] Decidable.decide Tr A2 hSK hSW
theorem Y9 (b:Batch) (off:Int) (hb:A9 b=true) (h1:0<=off) (h2:off<=2000000000):A17 171 [.agg (Ah (Au b)),.t (.int .i64 off)] [] (.t (.slice .any 5 ((Cl b off).map A8))) []:=by
 have hm:=Co hb
 have hlm:(b.recs.map AJ).length=b.recs.length:=List.length_map ..
 have hno: ¬off= -1:=by omega
 refine ct0 Ag Tryz.func171 Y false Y Y ?_
 repeat'(first|exact prB|refine stB ?_|refine stU (fun h=>?_) fun h=>?_|refine stN (fun b hb=>?_)|refine stE 8 22 ?_|fail)
 refine A1z 5 42 5 Y Y ?_
 refine A3 (ι:=Nat) (fun i=>i<=b.recs.length) (fun i=>[(1,.t (.int .i64 off)),(2,.ref 4 0),(5,.row 84 5 0 (((b.recs.take i).mapIdx (Hc b off)).map A8).length),(6,.t (.int .i64 i))]) (fun i=>[(84,.grow 5 (((b.recs.take i).mapIdx (Hc b off)).map A8)),(4,.cells (Ah (Au b)))]) (fun i=>b.recs.length-i) 0 Ac ?_ ?_
 ·exact AE [] (Af Y Y (Af Y Y (Af Y Y (Af Y Y Aj)))) Y
 rintro i hi
 by_cases hlt:i<b.recs.length
 ·have hr:b.recs[i]?=some b.recs[i]:=List.getElem?_eq_getElem hlt
  generalize b.recs[i]=r at hr
  have hw1:IntKind.i64.wrap (b.seq+i)=b.seq+i:=An Aa Aa
  have hw2:IntKind.i64.wrap (off+i)=off+i:=An Aa Aa
  repeat'(first|exact prB|refine stC ?_|refine stU (fun h=>?_) fun h=>?_|refine stN (fun b hb=>?_)|refine stE 8 22 ?_|fail)
  all_goals try(exfalso;omega)
  all_goals refine Ay (i+1) hlt Aa [] (Af Y Y (Af Y Y (Af Y ?_ (Af Y (by rw[An Aa Aa];rfl) Aj)))) ?_
  all_goals rw[Ti hr,List.map_append,Hc,if_neg hno]
  all_goals try rw[hw1]
  all_goals try rw[hw2]
  all_goals rfl
 ·repeat'(first|exact prB|refine stC ?_|refine stU (fun h=>?_) fun h=>?_|refine stN (fun b hb=>?_)|refine stE 8 22 ?_|fail)
  refine Ai Y (A1y ?_)
  have ht:b.recs.take i=b.recs:=List.take_of_length_le Aa
  rw[ht]
  simp[B5,Cl]
  try exact List.take_of_length_le Ac
theorem Tt (name:Bs) (l:List Entry) (hl:l.length<=1000000) (hsm: ∀x∈l,DW x) (hall:l.all B9=true) (hne:l≠[]):A17 102 [.t (.str name),.t (.slice .any 18 (l.map Az))] [] (.tuple [.row 84 4 0 ((Dp name l).map AF).length,.t (.int .i64 0)]) [(84,.grow 4 ((Dp name l).map AF))]:=by
 refine ct1 Ag Tryz.func102 Y Y ?_
 have hlm:(l.map Az).length=l.length:=List.length_map ..
 have hpos:l.length≠0:=fun e=>hne (List.eq_nil_of_length_eq_zero e)
 repeat'(first|exact prB|refine stB ?_|refine stU (fun h=>?_) fun h=>?_|refine stN (fun b hb=>?_)|fail)
 all_goals try(exfalso;omega)
 refine A1z 6 42 4 Y Y ?_
 refine A3 (ι:=Nat) (fun i=>i<=l.length) (fun i=>[(0,.t (.str name)),(1,.t (.slice .any 18 (l.map Az))),(6,.row 84 4 0 (((l.take i).map (HS name)).map AF).length),(7,.t (.int .i64 i))]) (fun i=>[(84,.grow 4 (((l.take i).map (HS name)).map AF))]) (fun i=>l.length-i) 0 Ac ?_ ?_
 ·exact AE [] (Af Y Y (Af Y Y (Af Y Y (Af Y Y Aj)))) Y
 rintro i hi
 by_cases hlt:i<l.length
 ·have hr:l[i]?=some l[i]:=List.getElem?_eq_getElem hlt
  have hs:=hsm l[i] (List.getElem_mem hlt)
  have hm:=List.all_eq_true.1 hall l[i] (List.getElem_mem hlt)
  generalize l[i]=r at hr hs hm
  repeat'(first|exact prB|refine stB ?_|refine stU (fun h=>?_) fun h=>?_|refine stN (fun b hb=>?_)|refine stL ?_ (c:=Uk r hm hs.1 hs.2)|refine stL ?_ (c:=O1 _ (H5 hm))|fail)
  refine Ay (i+1) hlt Aa [] (Af Y Y (Af Y Y (Af Y ?_ (Af Y ?_ Aj)))) ?_
  ·rw[A5 hr];simp[Bq]
  ·rw[An Aa Aa];rfl
  ·rw[A5 hr];simp[Bq,JK,AF,HS,EY,CP]
 ·repeat'(first|exact prB|refine stB ?_|refine stU (fun h=>?_) fun h=>?_|refine stN (fun b hb=>?_)|fail)
  refine Ca ?_
  have he:(Dp name l).map AF=((l.take i).map (HS name)).map AF++[AF ⟨1,name,[],0⟩]:=by
   rw[List.take_of_length_le Aa];simp[Dp]
  rw[he]
  exact Ba [] Y Y Y (A1x _)
theorem RU: ∀{l:List Opn} {k:Nat} {o:Opn},l[k]?=some o->(l.map Opn.pid).Pairwise (· < ·)->l.filter (fun x=>decide (x.pid≠o.pid))=l.eraseIdx k
 |[],k,o,h,_=>by simp at h
 |a::r,0,o,h,hp=>by
  simp at h
  subst h
  simp only[List.map_cons,List.pairwise_cons]at hp
  rw[List.filter_cons_of_neg Ac,List.eraseIdx_cons_zero,List.filter_eq_self]
  intro x hx
  have:=hp.1 x.pid (List.mem_map_of_mem hx)
  simp;omega
 |a::r,k+1,o,h,hp=>by
  simp only[List.getElem?_cons_succ]at h
  simp only[List.map_cons,List.pairwise_cons]at hp
  have hm:o∈r:=List.mem_of_getElem? h
  have:=hp.1 o.pid (List.mem_map_of_mem hm)
  rw[List.filter_cons_of_pos (by simp;omega),List.eraseIdx_cons_succ,RU h hp.2]
def Aje (p:Part) (o:Opn) (yes:Bool):Part:=⟨p.start,(E1 p o yes).2,(E1 p o yes).1,p.opens.filter (fun x=>decide (x.pid≠o.pid)),CW p.prods o.pid⟩
theorem Ajd (s f:Int) (R E P:List (List T)):B5 82 5 R (B5 72 3 E (.agg [.t (.int .i64 s),.t (.int .i64 f),.row 82 5 0 R.length,.row 72 3 0 E.length,.t (.slice .any 4 P)]))=.agg [.t (.int .i64 s),.t (.int .i64 f),.t (.slice .any 5 R),.t (.slice .any 3 E),.t (.slice .any 4 P)]:=by
 have b1:Nat.beq 72 82=false:=rfl
 have b2:Nat.beq 82 72=false:=rfl
 simp[B5,FF,b1,b2]
theorem Ajc (s f:Int) (R E P:List (List T)):B5 72 3 E (B5 82 5 R (.agg [.t (.int .i64 s),.t (.int .i64 f),.row 82 5 0 R.length,.row 72 3 0 E.length,.t (.slice .any 4 P)]))=.agg [.t (.int .i64 s),.t (.int .i64 f),.t (.slice .any 5 R),.t (.slice .any 3 E),.t (.slice .any 4 P)]:=by
 have b1:Nat.beq 72 82=false:=rfl
 have b2:Nat.beq 82 72=false:=rfl
 simp[B5,FF,b1,b2]
theorem ZA (p:Part) (o:Opn) (yes:Bool) (hs:AR p) (hP:POk p) (hm:o∈p.opens):A17 101 [.agg (Ah (AD p)),.agg (Ah (As o)),.t (.bool yes)] [] (.agg (Ah (AD (Aje p o yes)))) []:=by
 obtain⟨s1,s2,s3,s4⟩:=hs
 have hcp:=(hP.ook o hm).1
 have hbl:=BU hcp
 have hbm: ∀b∈o.batches,A9 b=true:=fun b hb=>(CF hcp b hb).1
 have b0:=hP.b0
 have b1:=hP.b1
 have b2:=hP.b2
 have ck:=ZH p.prods o.pid hP.may
 have hlo:(p.opens.map As).length=p.opens.length:=List.length_map ..
 have hlb:(o.batches.map Au).length=o.batches.length:=List.length_map ..
 have hlr:(p.rows.map A8).length=p.rows.length:=List.length_map ..
 refine ct0 Ag Tryz.func101 Y false Y Y ?_
 repeat'(first|exact prB|refine stC ?_|refine stU (fun h=>?_) fun h=>?_|refine stN (fun b hb=>?_)|refine stE 6 8 ?_|refine stE 7 8 ?_|refine stE 12 10 ?_|refine stE 13 9 ?_|fail)
 refine A13 14 3 36 3 Y Y Y ?_
 refine A3 (ι:=Nat) (fun i=>i<=p.opens.length) (fun i=>[(2,.t (.bool yes)),(3,.ref 6 0),(4,.ref 8 0),(6,.ref 12 0),(7,.ref 14 0),(8,.t (.int .i64 i))]) (fun i=>[(72,.grow 3 (((p.opens.take i).filter (fun x=>decide (x.pid≠o.pid))).map As)),(14,.cells [.t (.int .i64 p.start),.t (.int .i64 p.fin),.t (.slice .any 5 (p.rows.map A8)),.row 72 3 0 (((p.opens.take i).filter (fun x=>decide (x.pid≠o.pid))).map As).length,.t (.slice .any 4 (p.prods.map Al))]),(12,.cells (Ah Yw.zero)),(8,.cells (Ah (As o))),(6,.cells (Ah (AD p)))]) (fun i=>p.opens.length-i) 0 Ac ?_ ?_
 ·exact AE [] (Af Y Y (Af Y Y (Af Y Y (Af Y Y (Af Y Y (Af Y Y Aj)))))) Y
 rintro i hi
 by_cases hlt:i<p.opens.length
 ·have hr:p.opens[i]?=some p.opens[i]:=List.getElem?_eq_getElem hlt
  generalize p.opens[i]=x at hr
  have htk:=A5 hr
  have hfl:((p.opens.take i).filter (fun x=>decide (x.pid≠o.pid))).length<=1000000:=by
   have h1:=List.length_filter_le (fun x:Opn=>decide (x.pid≠o.pid)) (p.opens.take i)
   rw[List.length_take]at h1;omega
  by_cases hx:x.pid=o.pid
  ·have ef:(p.opens.take (i+1)).filter (fun x=>decide (x.pid≠o.pid))=(p.opens.take i).filter (fun x=>decide (x.pid≠o.pid)):=by rw[htk,List.filter_append];simp[hx]
   generalize(p.opens.take i).filter (fun x=>decide (x.pid≠o.pid))=FL at hfl ef
   repeat'(first|exact prB|refine stC ?_|refine stU (fun h=>?_) fun h=>?_|refine stN (fun b hb=>?_)|refine stE 6 8 ?_|refine stE 7 8 ?_|refine stE 12 10 ?_|refine stE 13 9 ?_|fail)
   all_goals first
    |(exfalso;omega)
    |(refine Ay (i+1) hlt Aa [] (Af Y Y (Af Y Y (Af Y Y (Af Y Y (Af Y Y (Af Y (by rw[An Aa Aa];rfl) Aj)))))) ?_
      rw[ef];rfl)
  ·have ef:(p.opens.take (i+1)).filter (fun x=>decide (x.pid≠o.pid))=(p.opens.take i).filter (fun x=>decide (x.pid≠o.pid))++[x]:=by rw[htk,List.filter_append];simp[hx]
   generalize(p.opens.take i).filter (fun x=>decide (x.pid≠o.pid))=FL at hfl ef
   repeat'(first|exact prB|refine stC ?_|refine stU (fun h=>?_) fun h=>?_|refine stN (fun b hb=>?_)|refine stE 6 8 ?_|refine stE 7 8 ?_|refine stE 12 10 ?_|refine stE 13 9 ?_|fail)
   all_goals first
    |(exfalso;omega)
    |(refine Ay (i+1) hlt Aa [] (Af Y Y (Af Y Y (Af Y Y (Af Y Y (Af Y Y (Af Y (by rw[An Aa Aa];rfl) Aj)))))) ?_
      rw[ef,List.map_append];rfl)
 rw[List.take_of_length_le (show p.opens.length<=i by omega)]
 have hfl:(p.opens.filter (fun x=>decide (x.pid≠o.pid))).length<=1000000:=by
  have h1:=List.length_filter_le (fun x:Opn=>decide (x.pid≠o.pid)) p.opens;omega
 unfold Aje
 generalize p.opens.filter (fun x=>decide (x.pid≠o.pid))=FL at hfl⊢
 repeat'(first|exact prB|refine stC ?_|refine stU (fun h=>?_) fun h=>?_|refine stN (fun b hb=>?_)|refine stE 6 8 ?_|refine stE 7 8 ?_|refine stE 12 10 ?_|refine stE 13 9 ?_|refine LH Ag Y Y Y Y Y Y Y Y Y Y Y Y Y (by simp;omega) ?_|fail)
 all_goals try(exfalso;omega)
 refine A3 (ι:=Nat) (fun j=>j<=o.batches.length/\(yes=false->j=0)) (fun j=>[(2,.t (.bool yes)),(3,.ref 6 0),(4,.ref 8 0),(6,.ref 12 0),(7,.ref 14 0),(9,.t (.int .i64 j))]) (fun j=>[(82,.grow 5 ((p.rows++Bw (o.batches.take j) p.fin).map A8)),(72,.grow 3 (FL.map As)),(14,.cells [.t (.int .i64 p.start),.t (.int .i64 (p.fin+Cs (o.batches.take j))),.row 82 5 0 ((p.rows++Bw (o.batches.take j) p.fin).map A8).length,.row 72 3 0 (FL.map As).length,.t (.slice .any 4 (p.prods.map Al))]),(12,.cells (Ah Yw.zero)),(8,.cells (Ah (As o))),(6,.cells (Ah (AD p)))]) (fun j=>o.batches.length-j) 0 Ac ?_ ?_
 ·refine AE [] (Af Y Y (Af Y Y (Af Y Y (Af Y Y (Af Y Y (Af Y Y Aj)))))) ?_
  simp only[List.take_zero,Bw,Cs,List.append_nil,Int.natCast_zero,Int.add_zero]
  rfl
 rintro j ⟨hj,hy⟩
 by_cases hlt:j<o.batches.length/\yes=true
 ·obtain⟨hlt2,hyes⟩:=hlt
  subst hyes
  have hr:o.batches[j]?=some o.batches[j]:=List.getElem?_eq_getElem hlt2
  have hmb:=hbm o.batches[j] (List.getElem_mem hlt2)
  generalize o.batches[j]=bb at hr hmb
  have hts:=A5 hr
  have hrn:=Fp (l:=o.batches.take j) fun b hb=>hbm b (List.mem_of_mem_take hb)
  have htl:(o.batches.take j).length<=8:=by rw[List.length_take];omega
  have hmm:=Co hmb
  have hlq:(bb.recs.map AJ).length=bb.recs.length:=List.length_map ..
  have cr:=Y9 bb (p.fin+Cs (o.batches.take j)) hmb Aa Aa
  have hRl:(p.rows++Bw (o.batches.take j) p.fin).length<=2000000:=by rw[List.length_append,EU];omega
  have hro:(Cl bb (p.fin+Cs (o.batches.take j))).length=bb.recs.length:=by simp[Cl]
  have hwr:IntKind.i64.wrap (p.fin+Cs (o.batches.take j)+((bb.recs.map AJ).length:Int))=p.fin+Cs (o.batches.take j)+bb.recs.length:=by rw[hlq,An Aa Aa]
  have e1:p.rows++Bw (o.batches.take (j+1)) p.fin=(p.rows++Bw (o.batches.take j) p.fin)++Cl bb (p.fin+Cs (o.batches.take j)):=by rw[hts,G7,List.append_assoc]
  have e2:p.fin+(Cs (o.batches.take (j+1)):Int)=p.fin+Cs (o.batches.take j)+bb.recs.length:=by rw[hts,Jd,Int.natCast_add,<-Int.add_assoc]
  generalize p.rows++Bw (o.batches.take j) p.fin=RL at hRl e1
  generalize p.fin+(Cs (o.batches.take j):Int)=fj at cr hro hwr e1 e2
  generalize Cl bb fj=NR at cr hro e1
  repeat'(first|exact prB|refine stC ?_|refine stU (fun h=>?_) fun h=>?_|refine stN (fun b hb=>?_)|refine stE 6 8 ?_|refine stE 7 8 ?_|refine stE 12 10 ?_|refine stM ?_ (c:=cr)|refine stL ?_ (c:=cr)|refine BC (id:=13) (m:=9) (ms:=[0,1,0,4,0,28,60,124,252,511,1023,2047]) Ag [(11,14)] Ab Y Y Y Y Ab Ab ?_|fail)
  all_goals first
   |(exfalso;omega)
   |(exfalso;simp_all;done)
   |(refine Ay (j+1) ⟨hlt2,fun h=>by cases h⟩ Aa [] (Af rfl rfl (Af rfl rfl (Af rfl rfl (Af rfl rfl (Af rfl rfl (Af rfl (by rw[An Aa Aa];rfl) Aj)))))) ?_
     rw[e1,e2,List.map_append,<-hwr];rfl)
 have hjl:yes=true->o.batches.length<=j:=fun h=>Nat.le_of_not_lt fun hl=>hlt ⟨hl,h⟩
 have e1:p.rows++Bw (o.batches.take j) p.fin=(E1 p o yes).1:=by
  cases yes with
  |false=>rw[hy Y];simp[E1,Bw]
  |true=>rw[List.take_of_length_le (hjl Y)];simp[E1]
 have e2:p.fin+(Cs (o.batches.take j):Int)=(E1 p o yes).2:=by
  cases yes with
  |false=>rw[hy Y];simp[E1,Cs]
  |true=>rw[List.take_of_length_le (hjl Y)];simp[E1]
 rw[e1,e2]
 generalize(E1 p o yes).1=RL
 generalize(E1 p o yes).2=fj
 repeat'(first|exact prB|refine stC ?_|refine stU (fun h=>?_) fun h=>?_|refine stN (fun b hb=>?_)|refine stE 6 8 ?_|refine stE 7 8 ?_|refine stE 12 10 ?_|refine stE 13 9 ?_|refine stL ?_ (c:=ck)|fail)
 all_goals first
  |(exfalso;simp_all;done)
  |(exfalso;simp_all;omega)
  |(refine Ai Y (A1y ?_);exact Ajd _ _ (RL.map A8) (FL.map As) ((CW p.prods o.pid).map Al))
  |(refine Ai Y (A1y ?_);exact Ajc _ _ (RL.map A8) (FL.map As) ((CW p.prods o.pid).map Al))
  |(refine Ai Y (A1y ?_))
theorem Ai0 {e:Int} {p:Part} {k:Nat} {o:Opn} {yes:Bool} (hk:p.opens[k]?=some o) (hP:POk p):Em e p k o yes={Aje p o yes with fin:=(E1 p o yes).2+(if e=0 then 1 else 0)}:=by
 unfold Em Aje
 rw[RU hk (by have:=hP.osrt;exact Fj.1 this)]
theorem RY (e q:Int) (he:e=0\/e=1) (hq:q=0\/q=1\/q=2) (p:Part) (pid:Int) (yes:Bool) (hs:AR p) (hp:Bb p=true):A17 48 [.t (.int .i8 e),.t (.int .i64 q),.agg (Ah (AD p)),.t (.int .i64 pid),.t (.bool yes)] [] (End e q p pid yes).av []:=by
 have hP:=Dq.1 hp
 have hbad:F4 e q p=false:=by
  unfold F4;rw[hp]
  rw[decide_eq_false Aa,decide_eq_false Aa];rfl
 have cm:=Ahw e q he hq p hs
 rw[hp]at cm
 have ch:=Aic p pid hs.2.1
 have cl:=Abf e q he hq
 cases hf:p.opens.find? (fun o=>decide (o.pid=pid))with
 |none=>
  have hr:End e q p pid yes=⟨p,[],0⟩:=by simp[End,hbad,hf]
  rw[hr]
  have e1:Kv p pid=.tuple [.agg (Ah VQ.zero),.t (.bool false)]:=by unfold Kv;rw[hf]
  rw[e1]at ch
  refine ct0 Ag Tryz.func48 Y false Y Y ?_
  repeat'(first|exact prB|refine stC ?_|refine stU (fun h=>?_) fun h=>?_|refine stN (fun b hb=>?_)|refine stL ?_ (c:=cm)|refine stL ?_ (c:=ch)|fail)
  all_goals first
   |(exfalso;simp_all;done)
   |exact Ai Y (Ap ⟨A1x _,Ak,A1x _,trivial⟩)
 |some o=>
  obtain⟨k,hk,hidx,hany⟩:=K3 hf
  have hm:o∈p.opens:=List.mem_of_getElem? hk
  have hpid:o.pid=pid:=by simpa using List.find?_some hf
  have hr:End e q p pid yes=⟨Em e p k o yes,Lz e q o yes,0⟩:=by simp[End,hbad,hf,hidx]
  rw[hr,Ai0 hk hP]
  have e1:Kv p pid=.tuple [.agg (Ah (As o)),.t (.bool true)]:=by unfold Kv;rw[hf]
  rw[e1]at ch
  have hcp:=(hP.ook o hm).1
  have hso:=hs.2.2.1 o hm
  obtain⟨p1,p2⟩:=FK hcp
  have hbl:=BU hcp
  have hbm: ∀b∈o.batches,A9 b=true:=fun b hb=>(CF hcp b hb).1
  have hrn:=Fp hbm
  have b1:=hP.b1
  have b0:=hP.b0
  have b2:=hP.b2
  have cd:=ZA p o yes hs hP hm
  have hfin:0<=(E1 p o yes).2/\(E1 p o yes).2<=2000000:=by unfold E1;split<;>(simp only[];omega)
  subst hpid
  unfold Aje at cd⊢
  generalize(E1 p o yes).2=fj at cd hfin⊢
  generalize(E1 p o yes).1=RL at cd⊢
  generalize p.opens.filter (fun x=>decide (x.pid≠o.pid))=FL at cd⊢
  generalize CW p.prods o.pid=PL at cd⊢
  rcases he with rfl|rfl
  ·have hmE:B9 (Ib o yes)=true:=X4 p1 p2
   have cp:=Ag4 (Ex 0 q) [Ib o yes] Ac (by simp[DW,Ib,HJ])
   rw[show NW (Ex 0 q) [Ib o yes]=Dp (Ex 0 q) [Ib o yes]by simp[NW,hmE],show P9 [Ib o yes]=0 by simp[P9,hmE]]at cp
   have hW:Lz 0 q o yes=Dp (Ex 0 q) [Ib o yes]:=by simp[Lz]
   have hw:IntKind.i64.wrap (fj+1)=fj+1:=An Aa Aa
   rw[hW]
   generalize Dp (Ex 0 q) [Ib o yes]=W at cp⊢
   refine ct0 Ag Tryz.func48 Y false Y Y ?_
   repeat'(first|exact prB|refine stC ?_|refine stU (fun h=>?_) fun h=>?_|refine stN (fun b hb=>?_)|refine stE 9 15 ?_|refine stL ?_ (c:=cm)|refine stL ?_ (c:=ch)|refine stL ?_ (c:=cd)|refine stM ?_ (c:=cl)|refine stL ?_ (c:=cl)|refine Ags Y Y Y Y Y (Ct.args cp ⟨A1x _,Yx ⟨⟨A15 _,A15 _,A15 _,A15 _,A15 _,BN.nil,A15 _,A15 _,A15 _,A15 _,A15 _,A15 _,A15 _,A15 _,A15 _,A15 _,A15 _,BN.nil,trivial⟩,trivial⟩,trivial⟩) Y Y ?_|fail)
   all_goals first
    |(exfalso;simp_all;done)
    |(refine Ai Y (A1y ?_);rw[hw];rfl)
  ·have hW:Lz 1 q o yes=LC q o yes:=by simp[Lz]
   rw[hW]
   obtain⟨m1,m2,m3⟩:=Se hcp
   have hx:=X3 hcp
   have hlc:(B7 o).length=o.batches.length:=by simp[B7]
   have cc:=Pw o hcp
   have cdr:=Aen o hcp
   have csd:=Agi q o.pid hq p1
   cases yes with
   |true=>
    have cp:=Tt (Ex 1 q) (B7 o) Aa m3 m1 m2
    have hwl:(Dp (Ex 1 q) (B7 o)).length<=100:=by simp[Dp];omega
    unfold LC
    simp only[if_true]
    generalize Dp (Ex 1 q) (B7 o)=W at cp hwl⊢
    refine ct0 Ag Tryz.func48 Y false Y Y ?_
    repeat'(first|exact prB|refine stC ?_|refine stU (fun h=>?_) fun h=>?_|refine stN (fun b hb=>?_)|refine stL ?_ (c:=cm)|refine stL ?_ (c:=ch)|refine stL ?_ (c:=cd)|refine stL ?_ (c:=cl)|refine stL ?_ (c:=cc)|refine A0 Ag [] [(84,170)] Y Y Y Y Y cp Y Y Y Y Y ?_|refine GK Ag [1,2,3,8] 8 Ab Y Y (by rintro ch e s ⟨hx,_⟩;rcases hx with hx|hx<;>cases hx) ?_|refine LD Y ?_|refine CR Y Y ?_|refine E5 Y Y Y ?_ ?_|refine Ut Y Y Y Y ?_ ?_ ?_|refine CR (i:=9) (by decide+kernel) Y ?_|refine CR (i:=10) (by decide+kernel) Y ?_|refine CR (i:=11) (by decide+kernel) Y ?_|refine LD (by decide+kernel) ?_|refine stL ?_ (c:=csd)|fail)
    all_goals first
     |(exfalso;simp_all;done)
     |(refine Ai Y (A1y (Eq.trans (b:=.tuple [.agg (Ah (AD ⟨p.start,fj,RL,FL,PL⟩)),B5 170 4 (W.map AF++[AF ⟨4,M7 q o.pid,[],0⟩]) (.row 170 4 0 (W.map AF++[AF ⟨4,M7 q o.pid,[],0⟩]).length),.t (.int .i64 0)]) Y ?_))
       rw[GD _ _ _ _ Y];simp[EO.av])
   |false=>
    have cp:=Tt (Ex 1 q) [N6 o] Ac (by simp[DW,N6,HJ]) (by simp[hx]) Ac
    unfold LC
    simp only[Bool.false_eq_true,if_false]
    have hwl:(Dp (Ex 1 q) [N6 o]).length<=100:=by simp[Dp]
    generalize Dp (Ex 1 q) [N6 o]=W at cp hwl⊢
    refine ct0 Ag Tryz.func48 Y false Y Y ?_
    repeat'(first|exact prB|refine stC ?_|refine stU (fun h=>?_) fun h=>?_|refine stN (fun b hb=>?_)|refine stL ?_ (c:=cm)|refine stL ?_ (c:=ch)|refine stL ?_ (c:=cd)|refine stL ?_ (c:=cl)|refine stL ?_ (c:=cc)|refine stL ?_ (c:=cdr)|refine A0 Ag [] [(84,170)] Y Y Y Y Y (cp.args ⟨A1x _,Ar,trivial⟩) Y Y Y Y Y ?_|refine GK Ag [1,2,3,8] 8 Ab Y Y (by rintro ch e s ⟨hx,_⟩;rcases hx with hx|hx<;>cases hx) ?_|refine LD Y ?_|refine CR Y Y ?_|refine E5 Y Y Y ?_ ?_|refine Ut Y Y Y Y ?_ ?_ ?_|refine CR (i:=9) (by decide+kernel) Y ?_|refine CR (i:=10) (by decide+kernel) Y ?_|refine CR (i:=11) (by decide+kernel) Y ?_|refine LD (by decide+kernel) ?_|refine stL ?_ (c:=csd)|fail)
    all_goals first
     |(exfalso;simp_all;done)
     |(refine Ai Y (A1y (Eq.trans (b:=.tuple [.agg (Ah (AD ⟨p.start,fj,RL,FL,PL⟩)),B5 170 4 (W.map AF++[AF ⟨4,M7 q o.pid,[],0⟩]) (.row 170 4 0 (W.map AF++[AF ⟨4,M7 q o.pid,[],0⟩]).length),.t (.int .i64 0)]) Y ?_))
       rw[GD _ _ _ _ Y];simp[EO.av])
end Go.Proofs.YtmohpcgmdheafaaGreatDoor
