/- Contracts and laws, joined: Xk, Ul, Nh, Xp. No condition beside those that each theorem names. -/
import Derived.Test.YtmohpcgmdheafaaGreatDoorZK12
set_option linter.unusedVariables false
set_option linter.unusedSimpArgs false
set_option maxRecDepth 100000
set_option maxHeartbeats 8000000
namespace Go.Proofs.YtmohpcgmdheafaaGreatDoor
open Go.Am
attribute [local irreducible] Decidable.decide Tr A2 hSK hSW
def Kv (p:Part) (pid:Int):AV:=match p.opens.find? (fun o=>decide (o.pid=pid))with
 |some o=>.tuple [.agg (Ah (As o)),.t (.bool true)]
 |none=>.tuple [.agg (Ah VQ.zero),.t (.bool false)]
theorem Are {l:List Opn} {pid:Int} (h:l.find? (fun o=>decide (o.pid=pid))=none):l.any (fun o=>decide (o.pid=pid))=false:=by
 rw[List.find?_eq_none]at h
 exact List.any_eq_false.2 fun x hx=>by simpa using h x hx
theorem Zt (p:Part) (pid:Int) (hs:AR p):A17 127 [.agg (Ah (AD p)),.t (.int .i64 pid)] [] (Kv p pid) []:=by
 have cf:=O8 p.opens pid hs.2.1
 cases h:p.opens.find? (fun o=>decide (o.pid=pid))with
 |none=>
  have e:Kv p pid=.tuple [.agg (Ah VQ.zero),.t (.bool false)]:=by unfold Kv;rw[h]
  rw[e]
  rw[Are h]at cf
  refine ct0 Ag Tryz.func127 Y false Y Y ?_
  repeat'(first|exact prB|refine stC ?_|refine stU (fun h=>?_) fun h=>?_|refine stN (fun b hb=>?_)|refine stL ?_ (c:=cf)|fail)
  all_goals exact Ai Y (A1y Y)
 |some o=>
  have e:Kv p pid=.tuple [.agg (Ah (As o)),.t (.bool true)]:=by unfold Kv;rw[h]
  rw[e]
  obtain⟨k,hk,hidx,hany⟩:=K3 h
  rw[hidx,hany]at cf
  have co:=Rq o (hs.2.2.1 o (List.mem_of_getElem? hk))
  refine ct0 Ag Tryz.func127 Y false Y Y ?_
  repeat'(first|exact prB|refine stC ?_|refine stU (fun h=>?_) fun h=>?_|refine stN (fun b hb=>?_)|refine stL ?_ (c:=cf)|refine stL ?_ (c:=co)|fail)
  all_goals exact Ai Y (A1y Y)
theorem RJ (p:Part) (pid:Int): ∃a b m n es,Kv p pid=.tuple [.agg [.t (.int .i64 a),.t (.int .i64 b),.t (.slice m n es)],.t (.bool (DO p pid))]:=by
 unfold Kv
 cases h:p.opens.find? (fun o=>decide (o.pid=pid))with
 |none=>exact⟨0,0,.nil,0,[],by rw[show DO p pid=false from Are h];rfl⟩
 |some o=>
  obtain⟨k,hk,hidx,hany⟩:=K3 h
  exact⟨o.pid,o.epoch,.any,5,o.batches.map Au,by rw[show DO p pid=true from hany];rfl⟩
structure SmallI (i:Image):Prop where
 p0:AR i.p0
 p1:AR i.p1
 p2:AR i.p2
 t0:SmallC i.m.t0
 t1:SmallC i.m.t1
 t2:SmallC i.m.t2
theorem Ij (i:Image) (pid:Int) (hs:SmallI i):A17 67 [.agg (Ah (A1 i)),.t (.int .i64 pid)] [] (.t (.slice .any 1 ((AH i pid).map Bz))) []:=by
 have c0:=Zt i.p0 pid hs.p0
 have c1:=Zt i.p1 pid hs.p1
 have c2:=Zt i.p2 pid hs.p2
 obtain⟨a0,b0,y0,z0,x0,e0⟩:=RJ i.p0 pid
 obtain⟨a1,b1,y1,z1,x1,e1⟩:=RJ i.p1 pid
 obtain⟨a2,b2,y2,z2,x2,e2⟩:=RJ i.p2 pid
 rw[e0]at c0;rw[e1]at c1;rw[e2]at c2
 unfold AH
 have hw0:IntKind.i64.wrap (0+1)=1:=by decide+kernel
 have hw1:IntKind.i64.wrap (1+1)=2:=by decide+kernel
 have hw2:IntKind.i64.wrap (2+1)=3:=by decide+kernel
 generalize DO i.p0 pid=H0 at c0⊢
 generalize DO i.p1 pid=H1 at c1⊢
 generalize DO i.p2 pid=H2 at c2⊢
 cases H0<;>cases H1<;>cases H2
 all_goals
  refine ct0 Ag Tryz.func67 Y false Y Y ?_
  repeat'(first|exact prB|refine stC ?_|refine stU (fun h=>?_) fun h=>?_|refine stN (fun b hb=>?_)|refine stL ?_ (c:=c0)|refine stL ?_ (c:=c1)|refine stL ?_ (c:=c2)|refine AN 5 ?_|refine AQ ?_|rw[hw0]|rw[hw1]|rw[hw2]|fail)
  all_goals first
   |exact Ai Y (A1y Y)
   |exact Ai Y Ak
def opI (l:List Opn) (k:Int):Nat:=(l.findIdx? (fun x=>decide (x.pid>=k))).getD l.length
def opB (l:List Opn) (k:Int):Bool:=decide ((l[opI l k]?.map Opn.pid)=some k)
theorem Ash {l:List Opn} {k:Int} {i:Nat} {x:Opn} (h:l[i]?=some x) (ha:(l.take i).any (fun x=>decide (x.pid>=k))=false) (hp:k<=x.pid):opI l k=i:=by
 have hlt:=(List.getElem?_eq_some_iff.1 h).1
 have e:=(List.getElem?_eq_some_iff.1 h).2
 have:l.findIdx? (fun x=>decide (x.pid>=k))=some i:=by
  rw[List.findIdx?_eq_some_iff_getElem]
  refine⟨hlt,by rw[e];simpa using hp,fun j hj=>?_⟩
  have:=List.any_eq_false.1 ha l[j] (List.mem_take_iff_getElem.2 ⟨j,by omega,Y⟩)
  simpa using this
 simp[opI,this]
theorem Asg {l:List Opn} {k:Int} (ha:l.any (fun x=>decide (x.pid>=k))=false):opI l k=l.length:=by
 have:l.findIdx? (fun x=>decide (x.pid>=k))=none:=by
  rw[List.findIdx?_eq_none_iff];intro x hx;simpa using List.any_eq_false.1 ha x hx
 simp[opI,this]
theorem NZ (p:Part) (k:Int) (hl:p.opens.length<=1000000):A17 96 [.agg (Ah (AD p)),.t (.int .i64 k)] [] (.tuple [.t (.int .i64 (opI p.opens k:Int)),.t (.bool (opB p.opens k))]) []:=by
 have hlm:(p.opens.map As).length=p.opens.length:=List.length_map ..
 refine ct0 Ag Tryz.func96 Y false Y Y ?_
 repeat'(first|exact prB|refine stB ?_|refine stU (fun h=>?_) fun h=>?_|refine stN (fun b hb=>?_)|refine stE 4 17 ?_|fail)
 refine A3 (ι:=Nat) (fun i=>i<=p.opens.length/\(p.opens.take i).any (fun x=>decide (x.pid>=k))=false) (fun i=>[(1,.t (.int .i64 k)),(2,.ref 4 0),(6,.t (.int .i64 i))]) (fun _=>[(4,.cells (Ah (AD p)))]) (fun i=>p.opens.length-i) 0 Ac ?_ ?_
 ·exact AE [] (Af Y Y (Af Y Y (Af Y Y Aj))) Y
 rintro i ⟨hi,hany⟩
 by_cases hlt:i<p.opens.length
 ·have hr:p.opens[i]?=some p.opens[i]:=List.getElem?_eq_getElem hlt
  generalize p.opens[i]=r at hr
  by_cases hk:r.pid<k
  ·repeat'(first|exact prB|refine stC ?_|refine stU (fun h=>?_) fun h=>?_|refine stN (fun b hb=>?_)|refine stE 4 17 ?_|fail)
   all_goals try(exfalso;omega)
   all_goals refine Ay (i+1) ⟨hlt,Du hr hany (by simp;omega)⟩ Aa [] (Af Y Y (Af Y Y (Af Y (by rw[An Aa Aa];rfl) Aj))) Y
  ·have hp:=Ash hr hany Aa
   have hb:opB p.opens k=decide (r.pid=k):=by simp[opB,hp,hr]
   rw[hp,hb]
   repeat'(first|exact prB|refine stC ?_|refine stU (fun h=>?_) fun h=>?_|refine stN (fun b hb=>?_)|refine stE 4 17 ?_|fail)
   all_goals try(exfalso;omega)
   all_goals exact Ai Y (Ap ⟨A1x _,AP (by first|rfl|(by_cases h:r.pid=k<;>simp[h])),trivial⟩)
 ·have hp:=Asg (k:=k) (l:=p.opens) (by rw[<-hany,List.take_of_length_le Aa])
  have hb:opB p.opens k=false:=by simp[opB,hp]
  have e:i=p.opens.length:=by omega
  subst e
  rw[hp,hb]
  repeat'(first|exact prB|refine stC ?_|refine stU (fun h=>?_) fun h=>?_|refine stN (fun b hb=>?_)|refine stE 4 17 ?_|fail)
  all_goals exact Ai Y (A1y Y)
theorem FJ (n:Nat) (hn:n<=9):A17 175 [.t (.int .i64 (n:Int))] [] (.t (.str [UInt8.ofNat (48+n)])) []:=by
 have hw:IntKind.i64.wrap (48+(n:Int))=((48+n:Nat):Int):=by rw[An Aa Aa];omega
 have hb:IntKind.u8.wrap (IntKind.i64.wrap (48+(n:Int)))=(((UInt8.ofNat (48+n)).toNat:Nat):Int):=by
  rw[hw]
  have h1:(UInt8.ofNat (48+n)).toNat=48+n:=by simp[UInt8.toNat_ofNat'];omega
  rw[h1]
  simp[IntKind.wrap,IntKind.bits,IntKind.signed];omega
 have he:([[T.int .u8 (IntKind.u8.wrap (IntKind.i64.wrap (48+(n:Int))))]]:List (List T))=Dt [UInt8.ofNat (48+n)]:=by rw[hb];rfl
 refine ct0 Ag Tryz.func175 Y false Y Y ?_
 repeat'(first|exact prB|refine stC ?_|refine stU (fun h=>?_) fun h=>?_|refine stN (fun b hb=>?_)|refine Ci Ag Y Y Y Y Y Y he Y ?_|fail)
 all_goals exact Ai Y (A1y Y)
theorem RA (e:Int) (he:e=0\/e=1):A17 174 [.t (.int .i8 e)] [] (.t (.str [if e=0 then 105 else 98])) []:=by
 rcases he with rfl|rfl
 all_goals refine ct0 Ag Tryz.func174 Y false Y Y ?_
 all_goals repeat'(first|exact prB|refine stC ?_|refine stU (fun h=>?_) fun h=>?_|refine stN (fun b hb=>?_)|fail)
 all_goals try(exfalso;omega)
 all_goals exact Ai Y (A1y Y)
theorem Abf (e i:Int) (he:e=0\/e=1) (hi:i=0\/i=1\/i=2):A17 103 [.t (.int .i8 e),.t (.int .i64 i)] [] (.t (.str (Ex e i))) []:=by
 have cl:=RA e he
 have c0:=FJ 0 Aa
 have c1:=FJ 1 Aa
 have c2:=FJ 2 Aa
 rcases he with rfl|rfl<;>rcases hi with rfl|rfl|rfl
 all_goals refine ct0 Ag Tryz.func103 Y false Y Y ?_
 all_goals repeat'(first|exact prB|refine stC ?_|refine stU (fun h=>?_) fun h=>?_|refine stN (fun b hb=>?_)|refine stL ?_ (c:=cl)|refine stL ?_ (c:=c0)|refine stL ?_ (c:=c1)|refine stL ?_ (c:=c2)|refine Qu Ag Y Y Y Y Y Ae ?_|fail)
 all_goals exact Ai Y (A1y (by simp[Ex]))
theorem Agi (i p:Int) (hi:i=0\/i=1\/i=2) (hp:1<=p/\p<=8):A17 105 [.t (.int .i64 i),.t (.int .i64 p)] [] (.t (.str (M7 i p))) []:=by
 obtain⟨m,rfl⟩:=Int.eq_ofNat_of_zero_le (show 0<=p by omega)
 have hm:m<=9:=by omega
 have c0:=FJ 0 Aa
 have c1:=FJ 1 Aa
 have c2:=FJ 2 Aa
 have cp:=FJ m hm
 rcases hi with rfl|rfl|rfl
 all_goals refine ct0 Ag Tryz.func105 Y false Y Y ?_
 all_goals repeat'(first|exact prB|refine stC ?_|refine stU (fun h=>?_) fun h=>?_|refine stN (fun b hb=>?_)|refine stL ?_ (c:=c0)|refine stL ?_ (c:=c1)|refine stL ?_ (c:=c2)|refine stL ?_ (c:=cp)|refine Qu Ag Y Y Y Y Y Ae ?_|fail)
 all_goals first
  |(exfalso;omega)
  |exact Ai Y (A1y (by simp[M7]))
theorem Ahu (e:Int) (he:e=0\/e=1):A17 168 [.t (.int .i8 e)] [] (.t (.str [if e=0 then 105 else 98,109])) []:=by
 have cl:=RA e he
 rcases he with rfl|rfl
 all_goals refine ct0 Ag Tryz.func168 Y false Y Y ?_
 all_goals repeat'(first|exact prB|refine stC ?_|refine stU (fun h=>?_) fun h=>?_|refine stN (fun b hb=>?_)|refine stL ?_ (c:=cl)|refine Qu Ag Y Y Y Y Y Ae ?_|fail)
 all_goals exact Ai Y (A1y Ac)
theorem Aic (p:Part) (pid:Int) (hl:p.opens.length<=1000000):A17 100 [.agg (Ah (AD p)),.t (.int .i64 pid)] [] (Kv p pid) []:=by
 have hlm:(p.opens.map As).length=p.opens.length:=List.length_map ..
 refine ct0 Ag Tryz.func100 Y false Y (by unfold Kv;split<;>rfl) ?_
 repeat'(first|exact prB|refine stC ?_|refine stU (fun h=>?_) fun h=>?_|refine stN (fun b hb=>?_)|fail)
 refine A3 (ι:=Nat) (fun i=>i<=p.opens.length/\ ∀o∈p.opens.take i,o.pid≠pid) (fun i=>[(1,.t (.int .i64 pid)),(2,.ref 4 0),(4,.ref 8 0),(6,.t (.int .i64 i))]) (fun _=>[(8,.cells (Ah VQ.zero)),(4,.cells (Ah (AD p)))]) (fun i=>p.opens.length-i) 0 Ac ?_ ?_
 ·exact AE [] (Af Y Y (Af Y Y (Af Y Y (Af Y Y Aj)))) Y
 rintro i ⟨hi,hno⟩
 by_cases hlt:i<p.opens.length
 ·have hr:p.opens[i]?=some p.opens[i]:=List.getElem?_eq_getElem hlt
  have hfi:p.opens[i].pid=pid->p.opens.find? (fun o=>decide (o.pid=pid))=some p.opens[i]:=by
   intro e
   rw[List.find?_eq_some_iff_getElem]
   refine⟨by simpa using e,i,hlt,Y,fun j hj=>?_⟩
   have hm:p.opens[j]' Aa∈p.opens.take i:=List.mem_take_iff_getElem.2 ⟨j,by omega,Y⟩
   simpa using hno _ hm
  generalize p.opens[i]=o at hr hfi
  by_cases he:o.pid=pid
  ·have e:Kv p pid=.tuple [.agg (Ah (As o)),.t (.bool true)]:=by unfold Kv;rw[hfi he]
   rw[e]
   repeat'(first|exact prB|refine stC ?_|refine stU (fun h=>?_) fun h=>?_|refine stN (fun b hb=>?_)|fail)
   all_goals first
    |(exfalso;omega)
    |exact Ai Y (A1y Y)
    |exact⟨.inr trivial,_,_,Y,A1y Y⟩
  ·repeat'(first|exact prB|refine stC ?_|refine stU (fun h=>?_) fun h=>?_|refine stN (fun b hb=>?_)|fail)
   all_goals first
    |(exfalso;omega)
    |(refine Ay (i+1) ⟨hlt,fun x hx=>?_⟩ Aa [] (Af Y Y (Af Y Y (Af Y Y (Af Y (by rw[An Aa Aa];rfl) Aj)))) Y
      rw[A5 hr,List.mem_append,List.mem_singleton]at hx
      rcases hx with hx|rfl
      ·exact hno x hx
      ·exact he)
 ·rw[List.take_of_length_le Aa]at hno
  have e:Kv p pid=.tuple [.agg (Ah VQ.zero),.t (.bool false)]:=by
   unfold Kv
   rw[List.find?_eq_none.2 fun o ho=>by simpa using hno o ho]
  rw[e]
  repeat'(first|exact prB|refine stC ?_|refine stU (fun h=>?_) fun h=>?_|refine stN (fun b hb=>?_)|fail)
  all_goals first
   |(exfalso;omega)
   |exact Ai Y (A1y Y)
theorem Rz (r:Row):EM r= !FD r:=by
 unfold EM FD
 by_cases h:1<=r.pid/\r.pid<=8/\0<=r.seq/\r.seq<=1048575/\(r.key.length:Int)<=16/\(r.value.length:Int)<=16
 ·rw[decide_eq_true h,decide_eq_false Aa];rfl
 ·rw[decide_eq_false h,decide_eq_true Aa];rfl
theorem Jx (p:Part) (hs:AR p):A17 44 [.agg (Ah (AD p))] [] (.t (.int .i64 (if Bb p=true then 0 else 2))) []:=by
 have c13:=XM p hs.1 hs.2.1
 have c10:=Adx p.prods hs.2.2.2.1
 have hlm:(p.rows.map A8).length=p.rows.length:=List.length_map ..
 have hlo:(p.opens.map As).length=p.opens.length:=List.length_map ..
 have h1:=hs.1
 have h2:=hs.2.1
 refine ct0 Ag Tryz.func44 Y false Y Y ?_
 by_cases hh:(DR p&&Ef p.prods)=true
 ·have ep:Bb p=(!p.rows.any EM&&p.opens.all (CT p)):=by
   simp only[Bool.and_eq_true]at hh
   simp[Bb,FQ,hh.1,hh.2]
  rw[ep]
  simp only[Bool.and_eq_true]at hh
  rw[hh.1,if_pos Y]at c13
  rw[hh.2]at c10
  repeat'(first|exact prB|refine stC ?_|refine stU (fun h=>?_) fun h=>?_|refine stN (fun b hb=>?_)|refine stE 14 25 ?_|refine stL ?_ (c:=c13)|refine stL ?_ (c:=c10)|fail)
  all_goals try(exfalso;simp_all;done)
  refine A3 (ι:=Nat) (fun i=>i<=p.rows.length/\(p.rows.take i).any EM=false) (fun i=>[(1,.ref 2 0),(3,.t (.int .i64 i))]) (fun _=>[(2,.cells (Ah (AD p)))]) (fun i=>p.rows.length-i) 0 Ac ?_ ?_
  ·exact AE [] (Af Y Y (Af Y Y Aj)) Y
  rintro i ⟨hi,hno⟩
  by_cases hlt:i<p.rows.length
  ·have hr:p.rows[i]?=some p.rows[i]:=List.getElem?_eq_getElem hlt
   generalize p.rows[i]=r at hr
   have cr:=R0 r
   cases hm:FD r with
   |false=>
    rw[hm]at cr
    have hb:EM r=true:=by rw[Rz,hm];rfl
    rw[NF hr hb]
    repeat'(first|exact prB|refine stC ?_|refine stU (fun h=>?_) fun h=>?_|refine stN (fun b hb=>?_)|refine stE 14 25 ?_|refine stL ?_ (c:=cr)|fail)
    all_goals exact Ai Y (A1y Y)
   |true=>
    rw[hm]at cr
    have hb:EM r=false:=by rw[Rz,hm];rfl
    repeat'(first|exact prB|refine stC ?_|refine stU (fun h=>?_) fun h=>?_|refine stN (fun b hb=>?_)|refine stE 14 25 ?_|refine stL ?_ (c:=cr)|fail)
    all_goals refine Ay (i+1) ⟨hlt,K9 hr hno hb⟩ Aa [] (Af Y Y (Af Y (by rw[An Aa Aa];rfl) Aj)) Y
  rw[List.take_of_length_le Aa]at hno
  rw[hno,Bool.not_false,Bool.true_and]
  repeat'(first|exact prB|refine stC ?_|refine stU (fun h=>?_) fun h=>?_|refine stN (fun b hb=>?_)|refine stE 14 25 ?_|fail)
  all_goals try(exfalso;omega)
  refine A3 (ι:=Nat) (fun i=>i<=p.opens.length/\(p.opens.take i).all (CT p)=true) (fun i=>[(1,.ref 2 0),(4,.t (.int .i64 i))]) (fun _=>[(2,.cells (Ah (AD p)))]) (fun i=>p.opens.length-i) 0 Ac ?_ ?_
  ·exact AE [] (Af Y Y (Af Y Y Aj)) Y
  rintro j ⟨hj,hall⟩
  by_cases hlt:j<p.opens.length
  ·have hr:p.opens[j]?=some p.opens[j]:=List.getElem?_eq_getElem hlt
   have hso:=hs.2.2.1 p.opens[j] (List.getElem_mem hlt)
   generalize p.opens[j]=o at hr hso
   have cf:=TL p.prods o.pid hs.2.2.2.1
   have hlb:(o.batches.map Au).length=o.batches.length:=List.length_map ..
   cases hc:B6 o with
   |false=>
    have hno:CT p o=false:=by simp[CT,hc]
    rw[KA hr hno]
    have cc:=Vy o hc hso.1
    repeat'(first|exact prB|refine stC ?_|refine stU (fun h=>?_) fun h=>?_|refine stN (fun b hb=>?_)|refine stE 14 25 ?_|refine stL ?_ (c:=cc)|refine stL ?_ (c:=cf)|fail)
    all_goals first
     |(exfalso;simp_all;done)
     |exact Ai Y (A1y Y)
   |true=>
    have cc:=Pw o hc
    have hl:=BU hc
    have hz:o.batches[o.batches.length-1]?=some (o.batches[o.batches.length-1]' Aa):=List.getElem?_eq_getElem _
    have hb:=(CF hc _ (List.mem_of_getElem? hz)).1
    generalize o.batches[o.batches.length-1]' Aa=z at hz hb
    have cb:=Mo z hb
    have elb:=I6 hz
    have hw:IntKind.i64.wrap (((o.batches.map Au).length:Int)-1)=((o.batches.length-1:Nat):Int):=by rw[hlb,An Aa Aa];omega
    have eo:CT p o=(FE p.prods o.pid&&decide ((BM p.prods o.pid).epoch=o.epoch/\(BM p.prods o.pid).next=DK z)):=by simp[CT,hc,elb]
    generalize BM p.prods o.pid=x at cf eo
    by_cases hok:CT p o=true
    ·have hok':=hok
     rw[eo]at hok'
     simp only[Bool.and_eq_true,decide_eq_true_eq]at hok'
     rw[hok'.1]at cf
     repeat'(first|exact prB|refine stC ?_|refine stU (fun h=>?_) fun h=>?_|refine stN (fun b hb=>?_)|refine stE 14 25 ?_|refine stL ?_ (c:=cc)|refine stL ?_ (c:=cf)|refine stM ?_ (c:=cb)|refine stL ?_ (c:=cb)|fail)
     all_goals first
      |(exfalso;simp_all;done)
      |(refine Ay (j+1) ⟨hlt,J4 hr hall hok⟩ Aa [5,8] (Af Y Y (Af Y (by rw[An Aa Aa];rfl) Aj)) Y)
    ·have hok':CT p o=false:=by simpa using hok
     rw[KA hr hok']
     rw[eo]at hok'
     generalize FE p.prods o.pid=H at cf hok'
     repeat'(first|exact prB|refine stC ?_|refine stU (fun h=>?_) fun h=>?_|refine stN (fun b hb=>?_)|refine stE 14 25 ?_|refine stL ?_ (c:=cc)|refine stL ?_ (c:=cf)|refine stM ?_ (c:=cb)|refine stL ?_ (c:=cb)|fail)
     all_goals first
      |exact Ai Y (A1y Y)
      |(exfalso;simp_all;done)
  ·rw[List.take_of_length_le Aa]at hall
   rw[hall,if_pos Y]
   repeat'(first|exact prB|refine stC ?_|refine stU (fun h=>?_) fun h=>?_|refine stN (fun b hb=>?_)|refine stE 14 25 ?_|fail)
   all_goals first
    |(exfalso;omega)
    |exact Ai Y (A1y Y)
 ·have ep:Bb p=false:=by
   cases hr:DR p with
   |false=>simp[Bb,FQ,hr]
   |true=>
    have:Ef p.prods=false:=by simpa[hr]using hh
    simp[Bb,FQ,this]
  rw[ep]
  cases hr:DR p with
  |false=>
   rw[hr]at c13
   simp only[Bool.false_eq_true,if_false]at c13
   repeat'(first|exact prB|refine stC ?_|refine stU (fun h=>?_) fun h=>?_|refine stN (fun b hb=>?_)|refine stE 14 25 ?_|refine stL ?_ (c:=c13)|refine stL ?_ (c:=c10)|fail)
   all_goals first
    |exact Ai Y (A1y Y)
    |(exfalso;simp_all;done)
  |true=>
   have hm:Ef p.prods=false:=by simpa[hr]using hh
   rw[hr,if_pos Y]at c13
   rw[hm]at c10
   repeat'(first|exact prB|refine stC ?_|refine stU (fun h=>?_) fun h=>?_|refine stN (fun b hb=>?_)|refine stE 14 25 ?_|refine stL ?_ (c:=c13)|refine stL ?_ (c:=c10)|fail)
   all_goals first
    |exact Ai Y (A1y Y)
    |(exfalso;simp_all;done)
theorem Ahw (e q:Int) (he:e=0\/e=1) (hq:q=0\/q=1\/q=2) (p:Part) (hs:AR p):A17 99 [.t (.int .i8 e),.t (.int .i64 q),.agg (Ah (AD p))] [] (.t (.bool (Bb p))) []:=by
 have cl:=Abf e q he hq
 have cc:=Jx p hs
 have hn: ¬Ex e q=[]:=by simp[Ex]
 cases hp:Bb p with
 |true=>
  rw[hp,if_pos Y]at cc
  refine ct0 Ag Tryz.func99 Y false Y Y ?_
  repeat'(first|exact prB|refine stC ?_|refine stU (fun h=>?_) fun h=>?_|refine stN (fun b hb=>?_)|refine stL ?_ (c:=cl)|refine stL ?_ (c:=cc)|fail)
  all_goals first
   |(exfalso;simp_all;done)
   |exact Ai Y (AP (by simp_all))
 |false=>
  rw[hp]at cc
  simp only[Bool.false_eq_true,if_false]at cc
  refine ct0 Ag Tryz.func99 Y false Y Y ?_
  repeat'(first|exact prB|refine stC ?_|refine stU (fun h=>?_) fun h=>?_|refine stN (fun b hb=>?_)|refine stL ?_ (c:=cl)|refine stL ?_ (c:=cc)|fail)
  all_goals first
   |(exfalso;simp_all;done)
   |exact Ai Y (AP (by simp_all))
def wM (b:Bs):Blk:=.cells [.t (.slice .any 1 (b.map A7)),.t (.int .i64 0)]
theorem Qq (n lo hi:Int) (h0:0<=n) (hn:n<=1099511627776):A17 209 [.ref 1 0,.ref 3 0,.t (.int .i64 lo),.t (.int .i64 hi)] [(1,.cells [.t (.slice .nil 0 []),.t (.int .i64 0)]),(3,.cells [.t (.int .i64 n)])] (.tuple []) [(1,wM (AY n.toNat)),(3,.cells [.t (.int .i64 n)])]:=by
 have cn:A17 279 [.t (.slice .nil 0 []),.t (.int .i64 n)] [] _ []:=(DG [] n h0 hn Ac).args ⟨Iz,A1x _,trivial⟩
 refine ct1 Ag Tryz.func209 Y Y ?_
 repeat'(first|exact prB|refine stC ?_|refine stU (fun h=>?_) fun h=>?_|refine stN (fun b hb=>?_)|refine stE 0 12 ?_|refine stL ?_ (c:=cn)|refine stM ?_ (c:=cn)|fail)
 exact AZ [] Y Y Y (A1x _)
theorem Afs (b:Bs) (e:MEntry) (lo hi:Int) (h0:0<=e.tid) (hn:e.tid<=1099511627776) (hb:b.length<=1000000000):A17 209 [.ref 1 0,.ref 3 1,.t (.int .i64 lo),.t (.int .i64 hi)] [(1,wM b),(3,.cells (Ah (Ax e)))] (.tuple []) [(1,wM (b++AY e.tid.toNat)),(3,.cells (Ah (Ax e)))]:=by
 have cn:=DG b e.tid h0 hn hb
 refine ct1 Ag Tryz.func209 Y Y ?_
 repeat'(first|exact prB|refine stC ?_|refine stU (fun h=>?_) fun h=>?_|refine stN (fun b hb=>?_)|refine stE 0 12 ?_|refine stL ?_ (c:=cn)|refine stM ?_ (c:=cn)|fail)
 exact AZ [] Y Y Y (A1x _)
theorem Afq (b:Bs) (e:MEntry) (lo hi:Int) (h0:0<=e.thn) (hn:e.thn<=1099511627776) (hb:b.length<=1000000000):A17 209 [.ref 1 0,.ref 3 7,.t (.int .i64 lo),.t (.int .i64 hi)] [(1,wM b),(3,.cells (Ah (Ax e)))] (.tuple []) [(1,wM (b++AY e.thn.toNat)),(3,.cells (Ah (Ax e)))]:=by
 have cn:=DG b e.thn h0 hn hb
 refine ct1 Ag Tryz.func209 Y Y ?_
 repeat'(first|exact prB|refine stC ?_|refine stU (fun h=>?_) fun h=>?_|refine stN (fun b hb=>?_)|refine stE 0 12 ?_|refine stL ?_ (c:=cn)|refine stM ?_ (c:=cn)|fail)
 exact AZ [] Y Y Y (A1x _)
theorem Afu (b:Bs) (e:MEntry) (hb:b.length<=1000000000):A17 451 [.ref 1 0,.ref 3 6] [(1,wM b),(3,.cells (Ah (Ax e)))] (.tuple []) [(1,wM (b++Ch e.yes)),(3,.cells (Ah (Ax e)))]:=by
 have cn:=K5 b e.yes hb
 refine ct1 Ag Tryz.func451 Y Y ?_
 repeat'(first|exact prB|refine stC ?_|refine stU (fun h=>?_) fun h=>?_|refine stN (fun b hb=>?_)|refine stE 0 9 ?_|refine stL ?_ (c:=cn)|refine stM ?_ (c:=cn)|refine BC (id:=0) (m:=9) (ms:=[0,0,2,6,14,0,32,96,254,511,1023,2047]) Ag [(11,1)] Ab Y Y Y Y Ab Ab ?_|fail)
 exact AZ [] Y Y Y (A1x _)
def TD:AV:=.agg [.iface 307 (.ref 1 0),.ref 3 0]
theorem Vk (b:Bs) (e:MEntry) (h0:0<=e.tid) (hn:e.tid<=1099511627776) (hb:b.length<=1000000000):A17 284 [TD] [(1,wM b),(3,.cells (Ah (Ax e)))] (.tuple []) [(1,wM (b++AY e.tid.toNat)),(3,.cells (Ah (Ax e)))]:=by
 have cn:=Afs b e 0 2 h0 hn hb
 refine ct1 Ag Tryz.func284 Y Y ?_
 repeat'(first|exact prB|refine stC ?_|refine stU (fun h=>?_) fun h=>?_|refine stN (fun b hb=>?_)|refine stE 1 8 ?_|refine A0 Ag [(1,1),(3,3)] [(1,1),(3,3)] Y Y Y Y Y cn Y Y Y Y Y ?_|fail)
 exact AZ [1] Y Y Y (A1x _)
theorem Ail (b:Bs) (e:MEntry) (h0:0<=e.tid) (hn:e.tid<=1000000) (h2:0<=e.thn) (h3:e.thn<=1000000) (hb:b.length<=1000):A17 283 [TD] [(1,wM b),(3,.cells (Ah (Ax e)))] (.tuple []) [(1,wM (((b++AY e.tid.toNat)++Ch e.yes)++AY e.thn.toNat)),(3,.cells (Ah (Ax e)))]:=by
 have l1:=AC (n:=e.tid.toNat) Aa
 have c1:=Vk b e h0 Aa Aa
 have c2:=Afu (b++AY e.tid.toNat) e (by simp;omega)
 have c3:=Afq ((b++AY e.tid.toNat)++Ch e.yes) e 0 20 h2 Aa (by simp[Ch];omega)
 refine ct1 Ag Tryz.func283 Y Y ?_
 repeat'(first|exact prB|refine stC ?_|refine stU (fun h=>?_) fun h=>?_|refine stN (fun b hb=>?_)|refine stE 2 8 ?_|refine stE 3 8 ?_|refine A0 Ag [(1,1),(3,3)] [(1,1),(3,3)] Y Y Y Y Y c1 Y Y Y Y Y ?_|refine A0 Ag [(1,1),(3,3)] [(1,1),(3,3)] Y Y Y Y Y c2 Y Y Y Y Y ?_|refine A0 Ag [(1,1),(3,3)] [(1,1),(3,3)] Y Y Y Y Y c3 Y Y Y Y Y ?_|fail)
 exact AZ [1] Y Y Y (A1x _)
theorem Ait (b:Bs) (tid:Int) (yes:Bool) (thn:Int) (h1:0<=tid/\tid<3) (h2:0<=thn/\thn<=20) (hb:b.length<=1000):A17 210 [TD] [(1,wM b),(3,.cells (Ah (Ax (e3 tid yes thn))))] (.tuple []) [(1,wM (((b++AY tid.toNat)++Ch yes)++AY thn.toNat)),(3,.cells (Ah (Ax (e3 tid yes thn))))]:=by
 have hk:IntKind.i64.wrap 3=3:=by decide+kernel
 rw[HN]
 have cn:=Ail b (e3 tid yes thn) h1.1 (show tid<=1000000 by omega) h2.1 (show thn<=1000000 by omega) hb
 refine ct1 Ag Tryz.func210 Y Y ?_
 repeat'(first|exact prB|refine stC ?_|refine stU (fun h=>?_) fun h=>?_|refine stN (fun b hb=>?_)|refine stE 4 4 ?_|rw[hk]|refine A0 Ag [(1,1),(3,3)] [(1,1),(3,3)] Y Y Y Y Y cn Y Y Y Y Y ?_|fail)
 all_goals first
  |(exfalso;simp_all;done)
  |exact AZ [1,2] Y Y Y (A1x _)
theorem Ais (b:Bs) (tid:Int) (h1:0<=tid/\tid<3) (hb:b.length<=1000):A17 210 [TD] [(1,wM b),(3,.cells (Ah (Ax (e4 tid))))] (.tuple []) [(1,wM (b++AY tid.toNat)),(3,.cells (Ah (Ax (e4 tid))))]:=by
 have hk:IntKind.i64.wrap 4=4:=by decide+kernel
 rw[Fr]
 have cn:=Vk b (e4 tid) h1.1 (show tid<=1099511627776 by omega) Aa
 refine ct1 Ag Tryz.func210 Y Y ?_
 repeat'(first|exact prB|refine stC ?_|refine stU (fun h=>?_) fun h=>?_|refine stN (fun b hb=>?_)|refine stE 4 4 ?_|rw[hk]|refine A0 Ag [(1,1),(3,3)] [(1,1),(3,3)] Y Y Y Y Y cn Y Y Y Y Y ?_|fail)
 all_goals first
  |(exfalso;simp_all;done)
  |exact AZ [1,2] Y Y Y (A1x _)
def mb3 (tid:Int) (yes:Bool) (thn:Int):Bs:=((AY 3++AY tid.toNat)++Ch yes)++AY thn.toNat
def mb4 (tid:Int):Bs:=AY 4++AY tid.toNat
theorem Af4:(AY 3).length<=6:=AC Aa
theorem Af3:(AY 4).length<=6:=AC Aa
theorem Aa8 {tid:Int} {yes:Bool} {thn:Int} (h1:0<=tid/\tid<3) (h2:0<=thn/\thn<=20):(mb3 tid yes thn).length<=1024:=by
 have l1:=AC (n:=tid.toNat) Aa
 have l2:=AC (n:=thn.toNat) Aa
 have l3:=Af4
 simp[mb3,Ch];omega
theorem Aa7 {tid:Int} (h1:0<=tid/\tid<3):(mb4 tid).length<=1024:=by
 have l1:=AC (n:=tid.toNat) Aa
 have l3:=Af3
 simp[mb4];omega
theorem Ab9 (tid:Int) (yes:Bool) (thn:Int) (h1:0<=tid/\tid<3) (h2:(0<=thn/\thn<=20)/\(yes=true->thn=0)):A17 133 [.agg (Ah (Ax (e3 tid yes thn)))] [] (.tuple [.t (.str (mb3 tid yes thn)),.t .nilIface]) []:=by
 have hk:IntKind.i64.wrap 3=3:=by decide+kernel
 rw[HN]
 have cm:=Abb tid yes thn h1 h2
 have c1:=Qq 3 0 7 Aa Aa
 have c2:=Ait (AY 3) tid yes thn h1 h2.1 (by have:=Af4;omega)
 refine ct0 Ag Tryz.func133 Y false Y Y ?_
 repeat'(first|exact prB|refine stC ?_|refine stU (fun h=>?_) fun h=>?_|refine stN (fun b hb=>?_)|refine stE 8 8 ?_|rw[hk]|refine stL ?_ (c:=cm)|refine A0 Ag [(26,1),(10,3)] [(1,26),(3,10)] Y Y Y Y Y c1 Y Y Y Y Y ?_|refine A0 Ag [(26,1),(2,3)] [(1,26),(3,2)] Y Y Y Y Y c2 Y Y Y Y Y ?_|refine Ci Ag Y Y Y Y Y Y (B8 _).symm Y ?_|fail)
 all_goals first
  |(exfalso;simp_all;done)
  |exact Ai Y (A1y Y)
theorem Ab8 (tid:Int) (h1:0<=tid/\tid<3):A17 133 [.agg (Ah (Ax (e4 tid)))] [] (.tuple [.t (.str (mb4 tid)),.t .nilIface]) []:=by
 have hk:IntKind.i64.wrap 4=4:=by decide+kernel
 rw[Fr]
 have cm:=Aba tid h1
 have c1:=Qq 4 0 7 Aa Aa
 have c2:=Ais (AY 4) tid h1 (by have:=Af3;omega)
 refine ct0 Ag Tryz.func133 Y false Y Y ?_
 repeat'(first|exact prB|refine stC ?_|refine stU (fun h=>?_) fun h=>?_|refine stN (fun b hb=>?_)|refine stE 8 8 ?_|rw[hk]|refine stL ?_ (c:=cm)|refine A0 Ag [(26,1),(10,3)] [(1,26),(3,10)] Y Y Y Y Y c1 Y Y Y Y Y ?_|refine A0 Ag [(26,1),(2,3)] [(1,26),(3,2)] Y Y Y Y Y c2 Y Y Y Y Y ?_|refine Ci Ag Y Y Y Y Y Y (B8 _).symm Y ?_|fail)
 all_goals first
  |(exfalso;simp_all;done)
  |exact Ai Y (A1y Y)
def Aa6 (e:Int):Bs:=[if e=0 then 105 else 98,109]
theorem Ahf (e:Int) (he:e=0\/e=1):A17 132 [.t (.int .i8 e)] [] (.t (.str (Aa6 e))) []:=by
 rcases he with rfl|rfl<;>exact ctT UO 60 Ab
def Cy (e:Int) (b:Bs):List Wr:=[⟨0,Aa6 e,RP b,0⟩,⟨1,Aa6 e,[],0⟩]
theorem Vd (e:Int) (he:e=0\/e=1) (x:MEntry) (b:Bs) (hb:b.length<=1024) (hw:A17 133 [.agg (Ah (Ax x))] [] (.tuple [.t (.str b),.t .nilIface]) []):A17 72 [.t (.int .i8 e),.t (.slice .any 17 [Ax x])] [] (.tuple [.row 102 4 0 2,.t (.int .i64 0)]) [(102,.grow 4 ((Cy e b).map AF))]:=by
 have cn:=Ahf e he
 have cf:=Ll b hb
 have hw1:IntKind.i64.wrap (0+1)=1:=by decide+kernel
 refine ct1 Ag Tryz.func72 Y Y ?_
 repeat'(first|exact prB|refine stC ?_|refine stU (fun h=>?_) fun h=>?_|refine stN (fun b hb=>?_)|refine stL ?_ (c:=cn)|refine stL ?_ (c:=hw)|refine stL ?_ (c:=cf)|refine AN 3 ?_|refine AQ ?_|rw[hw1]|fail)
 all_goals first
  |(exfalso;simp_all[Aa6];done)
  |exact Ba [] Y Y Y (A1x _)
  |exact Ba [9] Y Y Y (A1x _)
end Go.Proofs.YtmohpcgmdheafaaGreatDoor
