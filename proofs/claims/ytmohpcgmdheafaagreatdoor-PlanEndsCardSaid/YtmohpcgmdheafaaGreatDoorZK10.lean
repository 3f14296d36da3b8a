/- Contracts and laws, joined: Tc, Td, Tf, Tg, Tj, Tk, Tl, Tm, Tn, Le, Ue. No condition beside those that each theorem names. -/
import Derived.Test.YtmohpcgmdheafaaGreatDoorZK9
set_option linter.unusedVariables false
set_option linter.unusedSimpArgs false
set_option maxRecDepth 100000
set_option maxHeartbeats 8000000
namespace Go.Proofs.YtmohpcgmdheafaaGreatDoor
open Go.Am
attribute [local irreducible] Decidable.decide Tr A2 hSK hSW
def CW (l:List Prod) (pid:Int):List Prod:=match l.findIdx? (fun x=>decide (x.pid=pid))with
 |some i=>(match l[i]? with
  |some x=>S2 l i (i+1) {x with seen:=[]}
  |none=>l)
 |none=>l
theorem XH (pid:Int) (p:Prod):A17 144 (.agg (Ah (Al p))::Ah [.ptr [.int .i64 pid]]) [] (.t (.bool (decide (p.pid=pid)))) []:=by
 refine ct0 Ag Tryz.func144 Y false Y Y ?_
 repeat'(first|exact prB|refine stC ?_|refine stU (fun h=>?_) fun h=>?_|refine stN (fun b hb=>?_)|fail)
 exact Ai Y (A1x _)
theorem Ajh (l:List Prod) (pid:Int) (hl:KK l):A17 79 [.t (.slice .any 4 (l.map Al)),.t (.int .i64 pid)] [] (.t (.slice .any 4 ((CW l pid).map Al))) []:=by
 have hlen:=hl.1
 have cf:=N1 144 [.ptr [.int .i64 pid]] (fun p=>decide (p.pid=pid)) l Aa (XH pid) Y
 refine ct0 Ag Tryz.func79 Y false Y Y ?_
 refine Ik ?_
 refine L4 Ag Y Y ?_
 repeat'(first|exact prB|refine stA ?_|refine stU (fun h=>?_) fun h=>?_|refine stN (fun b hb=>?_)|fail)
 refine A12 (cs:=[.int .i64 pid]) 3 6 Y Y Y Y ?_
 cases hh:l.any (fun p=>decide (p.pid=pid))with
 |false=>
  rw[hh]at cf
  have hs:CW l pid=l:=by
   have:l.findIdx? (fun x=>decide (x.pid=pid))=none:=by rw[List.findIdx?_eq_none_iff];intro x hx;simpa using List.any_eq_false.1 hh x hx
   simp[CW,this]
  repeat'(first|exact prB|refine stC ?_|refine stU (fun h=>?_) fun h=>?_|refine stN (fun b hb=>?_)|refine stL ?_ (c:=cf)|fail)
  exact Ai Y (A1y (by rw[hs];rfl))
 |true=>
  obtain⟨i,x,hx,hi,_,_⟩:=PW hh
  rw[hh,hi]at cf
  have hlt:=(List.getElem?_eq_some_iff.1 hx).1
  have hfi:l.findIdx? (fun x=>decide (x.pid=pid))=some i:=by
   unfold SA at hi
   cases hf:l.findIdx? (fun x=>decide (x.pid=pid))with
   |none=>rw[hf]at hi;simp at hi;omega
   |some j=>rw[hf]at hi;simp at hi;exact congrArg some Aa
  have cp1:=Ww l i (i+1) {x with seen:=[]} hl Aa Aa Ac
  have hw:IntKind.i64.wrap ((i:Int)+1)=((i+1:Nat):Int):=by rw[An Aa Aa];rfl
  rw[<-hw]at cp1
  repeat'(first|exact prB|refine stC ?_|refine stU (fun h=>?_) fun h=>?_|refine stN (fun b hb=>?_)|refine stL ?_ (c:=cf)|refine JJ Ag Y Y Y Y Y Y Y Y (CL hx) Y ?_|refine BG Ag Y Y Y Y (cp1) Y Y Y ⟨A1x _,A1x _,A1x _,(by refine AA ?_;exact⟨A1x _,A1x _,A1x _,Ak,trivial⟩),trivial⟩ ?_|fail)
  refine Ai Y (A1y ?_)
  simp[CW,hfi,hx]
theorem Ak7 (e i:Int) (he:e=0\/e=1) (hi:i=0\/i=1\/i=2) (l:List Entry) (hl:l.length<=1000000) (hsm: ∀x∈l,DW x) (hok:P9 l=0):A17 430 [.agg (Ah (CM e i)),.t (.slice .any 18 (l.map Az)),.t (.int .i64 0)] [] (.tuple [.t (.slice .any 4 ((NW (Ex e i) l).map AF)),.t .nilIface]) []:=by
 have cl:=Q9 e i he hi
 have cp:=Amf (Ex e i) l hl hsm
 rw[hok]at cp
 refine ct0 Ag Tryz.func430 Y false Y Y ?_
 repeat'(first|exact prB|refine stC ?_|refine stU (fun h=>?_) fun h=>?_|refine stN (fun b hb=>?_)|refine stL ?_ (c:=cl)|refine stL ?_ (c:=cp)|fail)
 exact Ai Y (A1x _)
def Ib (o:Opn) (yes:Bool):Entry:={kind:=1,b:=⟨o.pid,o.epoch,0,false,[]⟩,yes:=yes,next:=0,offset:=0,row:=⟨0,0,0,[],[]⟩,prod:=HJ}
theorem X4 {o:Opn} {yes:Bool} (h1:1<=o.pid/\o.pid<=8) (h2:0<=o.epoch/\o.epoch<=100):B9 (Ib o yes)=true:=by
 have h:DS (Ib o yes)=true:=by simp[DS,Gr,Ib,K8,HJ]
 simp only[B9,h,Bool.true_and]
 simp[Ib,h1.1,h1.2,h2.1,h2.2]
theorem Amj (e i:Int) (he:e=0\/e=1) (hi:i=0\/i=1\/i=2) (o:Opn) (yes:Bool) (h1:1<=o.pid/\o.pid<=8) (h2:0<=o.epoch/\o.epoch<=100):A17 427 [.t (.agg (CM e i)),.agg (Ah (As o)),.t (.bool yes)] [] (.tuple [.t (.slice .any 4 ((Dp (Ex e i) [Ib o yes]).map AF)),.t .nilIface]) []:=by
 have hm:B9 (Ib o yes)=true:=X4 h1 h2
 have cp:=Ak7 e i he hi [Ib o yes] Ac (by simp[DW,Ib,HJ]) (by simp[P9,hm])
 rw[show NW (Ex e i) [Ib o yes]=Dp (Ex e i) [Ib o yes]by simp[NW,hm]]at cp
 refine ct0 Ag Tryz.func427 Y false Y Y ?_
 repeat'(first|exact prB|refine stC ?_|refine stU (fun h=>?_) fun h=>?_|refine stN (fun b hb=>?_)|refine BG Ag Y Y Y Y cp Y Y Y ⟨A1x _,Yx ⟨⟨A15 _,A15 _,A15 _,A15 _,A15 _,BN.nil,A15 _,A15 _,A15 _,A15 _,A15 _,A15 _,A15 _,A15 _,A15 _,A15 _,A15 _,BN.nil,trivial⟩,trivial⟩,A1x _,trivial⟩ ?_|fail)
 exact Ai Y (A1x _)
def N6 (o:Opn):Entry:={kind:=4,b:=⟨o.pid,o.epoch,0,false,[]⟩,yes:=false,next:=Hj o.batches,offset:=0,row:=⟨0,0,0,[],[]⟩,prod:=HJ}
theorem Uh {pid ep:Int}: ∀{l:List Batch} {n:Int},C2 pid ep n l=true-> ∀b∈l,A9 b=true/\b.txn=true/\b.pid=pid/\b.epoch=ep
 |[],_,_,b,hb=>by simp at hb
 |a::r,n,h,b,hb=>by
  simp only[C2,Bool.and_eq_true,decide_eq_true_eq]at h
  rcases List.mem_cons.1 hb with rfl|hb
  ·exact⟨h.1.1.1.1.1,h.1.1.1.1.2,h.1.1.1.2,h.1.1.2⟩
  ·exact Uh h.2 b hb
theorem CF {o:Opn} (h:B6 o=true): ∀b∈o.batches,A9 b=true/\b.txn=true/\b.pid=o.pid/\b.epoch=o.epoch:=by
 simp only[B6,Bool.and_eq_true]at h
 exact Uh h.2
theorem FK {o:Opn} (h:B6 o=true):(1<=o.pid/\o.pid<=8)/\0<=o.epoch/\o.epoch<=100:=by
 have hl:=BU h
 obtain⟨b,hb⟩: ∃b,b∈o.batches:=List.exists_mem_of_length_pos Aa
 obtain⟨h1,_,h2,h3⟩:=CF h b hb
 have hbb:=Ss h1
 unfold CN at hbb
 omega
theorem T7: ∀{l:List Batch},l≠[]-> ∃b∈l,Hj l=DK b
 |[],h=>absurd Y h
 |[a],_=>⟨a,by simp,Y⟩
 |a::c::r,_=>by
  obtain⟨b,h1,h2⟩:=T7 (l:=c::r) Ac
  exact⟨b,by simp at h1⊢;exact .inr h1,by simpa[Hj]using h2⟩
theorem MW {o:Opn} (h:B6 o=true):0<=Hj o.batches/\Hj o.batches<=1048576:=by
 have hl:=BU h
 obtain⟨b,hb,e⟩:=T7 (l:=o.batches) (fun h=>by rw[h]at hl;simp at hl)
 have:=Co (CF h b hb).1
 rw[e];unfold DK;omega
theorem X3 {o:Opn} (h:B6 o=true):B9 (N6 o)=true:=by
 obtain⟨h1,h2⟩:=FK h
 have h3:=MW h
 have hb:DS (N6 o)=true:=by simp[DS,Gr,N6,K8,HJ]
 simp only[B9,hb,Bool.true_and]
 simp[N6,h1.1,h1.2,h2.1,h2.2,h3.1,h3.2]
theorem Se {o:Opn} (h:B6 o=true):(B7 o).all B9=true/\B7 o≠[]/\ ∀x∈B7 o,DW x:=by
 have hl:=BU h
 have h3:=MW h
 have key: ∀x∈B7 o,B9 x=true/\DW x:=fun x hx=>by
  obtain⟨i,hi,rfl⟩:=List.mem_iff_getElem.1 hx
  simp only[B7,List.length_mapIdx]at hi
  obtain⟨q1,q2,_⟩:=CF h o.batches[i] (List.getElem_mem hi)
  have hm:=Co q1
  simp only[B7,List.getElem_mapIdx,Da]
  split
  ·refine⟨?_,by simp[DW];omega⟩
   have hb:DS ⟨3,o.batches[i],true,Hj o.batches,0,Lw,Gy⟩=true:=by simp[DS,Gr]
   simp only[B9,hb,Bool.true_and]
   simp[q1,q2,h3.1,h3.2]
  ·refine⟨?_,by simp[DW];omega⟩
   have hb:DS ⟨3,o.batches[i],false,0,0,Lw,Gy⟩=true:=by simp[DS,Gr]
   simp only[B9,hb,Bool.true_and]
   simp[q1,q2]
 refine⟨List.all_eq_true.2 fun x hx=>(key x hx).1,fun he=>?_,fun x hx=>(key x hx).2⟩
 have:(B7 o).length=o.batches.length:=by simp[B7]
 rw[he]at this;simp at this;omega
theorem Amw (o:Opn) (h:B6 o=true) (hs:JQ o):A17 434 [.agg (Ah (As o))] [] (.tuple [.agg (Ah (Az (N6 o))),.t (.int .i64 0)]) []:=by
 have cc:=Sm o hs
 rw[show ccT o=.nilIface by simp[ccT,h]]at cc
 have hl:=BU h
 have cb:=Sn o hl.1 hl.2 (fun b hb=>(CF h b hb).1)
 refine ct0 Ag Tryz.func434 Y false Y Y ?_
 repeat'(first|exact prB|refine stC ?_|refine stU (fun h=>?_) fun h=>?_|refine stN (fun b hb=>?_)|refine stD 4 7 ?_|refine stL ?_ (c:=cc)|refine stL ?_ (c:=cb)|refine stM ?_ (c:=cb)|fail)
 refine Ai Y (Ap ⟨AA ?_,A1x _,trivial⟩)
 exact⟨A1x _,A1x _,A1x _,A1x _,A1x _,Ak,A1x _,A1x _,A1x _,A1x _,A1x _,A1x _,A1x _,A1x _,A1x _,A1x _,A1x _,Ak,trivial⟩
theorem Aix (name:Bs) (l:List Entry) (hl:l.length<=1000000) (hsm: ∀x∈l,DW x) (hall:l.all B9=true) (hne:l≠[]):A17 188 [.t (.str name),.t (.slice .any 18 (l.map Az))] [] (.tuple [.row 86 4 0 ((Dp name l).map AF).length,.t (.int .i64 0)]) [(86,.grow 4 ((Dp name l).map AF))]:=by
 refine ct1 Ag Tryz.func188 Y Y ?_
 have cl:=R8 l hl hsm
 simp only[if_pos hall]at cl
 have hlm:((l.map Bx).map Ic).length=l.length:=by simp
 have hpos:l.length≠0:=fun e=>hne (List.eq_nil_of_length_eq_zero e)
 repeat'(first|exact prB|refine stB ?_|refine stU (fun h=>?_) fun h=>?_|refine stN (fun b hb=>?_)|refine stL ?_ (c:=cl)|fail)
 all_goals try(exfalso;omega)
 refine A1z 8 43 4 Y Y ?_
 refine A3 (ι:=Nat) (fun i=>i<=l.length) (fun i=>[(0,.t (.str name)),(8,.row 86 4 0 (((l.take i).map (HS name)).map AF).length),(25,.t (.slice .any 1 ((l.map Bx).map Ic))),(26,.t (.int .i64 l.length)),(27,.t (.int .i64 i))]) (fun i=>[(86,.grow 4 (((l.take i).map (HS name)).map AF))]) (fun i=>l.length-i) 0 Ac ?_ ?_
 ·exact AE [] (Af Y Y (Af Y Y (Af Y Y (Af Y (by rw[hlm]) (Af Y Y Aj))))) Y
 rintro i hi
 by_cases hlt:i<l.length
 ·have hr:l[i]?=some l[i]:=List.getElem?_eq_getElem hlt
  have hm:=List.all_eq_true.1 hall l[i] (List.getElem_mem hlt)
  generalize l[i]=r at hr hm
  have hr2:(l.map Bx)[i]?=some (Bx r):=by simp[hr]
  repeat'(first|exact prB|refine stB ?_|refine stU (fun h=>?_) fun h=>?_|refine stN (fun b hb=>?_)|refine stL ?_ (c:=Ll _ (H5 hm))|fail)
  refine Ay (i+1) hlt Aa [] (Af Y Y (Af Y ?_ (Af Y Y (Af Y Y (Af Y ?_ Aj))))) ?_
  ·rw[A5 hr];simp[Bq]
  ·rw[An Aa Aa];rfl
  ·rw[A5 hr];simp[Bq,JK,AF,HS,EY,CP]
 ·repeat'(first|exact prB|refine stB ?_|refine stU (fun h=>?_) fun h=>?_|refine stN (fun b hb=>?_)|fail)
  refine Ca ?_
  have he:(Dp name l).map AF=((l.take i).map (HS name)).map AF++[AF ⟨1,name,[],0⟩]:=by
   rw[List.take_of_length_le Aa];simp[Dp]
  rw[he]
  exact Ba [] Y Y Y (A1x _)
theorem VW (e i:Int) (he:e=0\/e=1) (hi:i=0\/i=1\/i=2) (l:List Entry) (hl:l.length<=1000000) (hsm: ∀x∈l,DW x) (hall:l.all B9=true) (hne:l≠[]):A17 430 [.agg (Ah (CM e i)),.t (.slice .any 18 (l.map Az)),.t (.int .i64 0)] [] (.tuple [.row 86 4 0 ((Dp (Ex e i) l).map AF).length,.t .nilIface]) [(86,.grow 4 ((Dp (Ex e i) l).map AF))]:=by
 have cl:=Q9 e i he hi
 have cp:=Aix (Ex e i) l hl hsm hall hne
 refine ct1 Ag Tryz.func430 Y Y ?_
 repeat'(first|exact prB|refine stB ?_|refine stU (fun h=>?_) fun h=>?_|refine stN (fun b hb=>?_)|refine stL ?_ (c:=cl)|refine A0 Ag [] [(86,86)] Y Y Y Y Y cp Y Y Y Y Y ?_|fail)
 refine Ca ?_
 exact Ba [3] Y Y Y (A1x _)
def LC (i:Int) (o:Opn) (yes:Bool):List Wr:=Dp (Ex 1 i) (if yes=true then B7 o else[N6 o])++[⟨4,M7 i o.pid,[],0⟩]
theorem Amk (i:Int) (hi:i=0\/i=1\/i=2) (o:Opn) (yes:Bool) (h:B6 o=true) (hs:JQ o):A17 431 [.t (.agg (CM 1 i)),.agg (Ah (As o)),.t (.bool yes)] [] (.tuple [.t (.slice .any 4 ((LC i o yes).map AF)),.t .nilIface]) []:=by
 have hl:=BU h
 have cd:=Amw o h hs
 have cc:=Lq o h
 obtain⟨m1,m2,m3⟩:=Se h
 have hx:=X3 h
 have hlc:(B7 o).length=o.batches.length:=by simp[B7]
 obtain⟨p1,p2⟩:=FK h
 have csd:=Ak8 i o.pid hi Aa
 cases yes with
 |true=>
  have cp:=VW 1 i (.inr Y) hi (B7 o) Aa m3 m1 m2
  have hwl:(Dp (Ex 1 i) (B7 o)).length<=100:=by simp[Dp];omega
  refine ct0 Ag Tryz.func431 Y false Y Y ?_
  repeat'(first|exact prB|refine stC ?_|refine stU (fun h=>?_) fun h=>?_|refine stN (fun b hb=>?_)|refine stL ?_ (c:=cd)|refine stL ?_ (c:=cc)|refine A0 Ag [] [(86,86)] Y Y Y Y Y cp Y Y Y Y Y ?_|refine stL ?_ (c:=csd)|fail)
  refine Ai Y (A1y ?_)
  simp[LC,B5,AF,Bq,JK]
  try exact List.take_of_length_le Ac
 |false=>
  have cp:=VW 1 i (.inr Y) hi [N6 o] Ac (by simp[DW,N6,HJ]) (by simp[hx]) Ac
  have hwl:(Dp (Ex 1 i) [N6 o]).length<=100:=by simp[Dp]
  refine ct0 Ag Tryz.func431 Y false Y Y ?_
  repeat'(first|exact prB|refine stC ?_|refine stU (fun h=>?_) fun h=>?_|refine stN (fun b hb=>?_)|refine stL ?_ (c:=cd)|refine A0 Ag [] [(86,86)] Y Y Y Y Y (Ct.args cp ⟨A1x _,Ar,A1x _,trivial⟩) Y Y Y Y Y ?_|refine stL ?_ (c:=csd)|fail)
  refine Ai Y (A1y ?_)
  simp[LC,B5,AF,Bq,JK]
  try exact List.take_of_length_le Ac
theorem Ahs (e i:Int):A17 428 [.t (.agg (CM e i))] [] (.t (.int .i64 1)) []:=by
 refine ct0 Ag Tryz.func428 Y false Y Y ?_
 repeat'(first|exact prB|refine stC ?_|refine stU (fun h=>?_) fun h=>?_|refine stN (fun b hb=>?_)|fail)
 exact Ai Y (A1x _)
theorem Aht (e i:Int):A17 432 [.t (.agg (CM e i))] [] (.t (.int .i64 0)) []:=by
 refine ct0 Ag Tryz.func432 Y false Y Y ?_
 repeat'(first|exact prB|refine stC ?_|refine stU (fun h=>?_) fun h=>?_|refine stN (fun b hb=>?_)|fail)
 exact Ai Y (A1x _)
theorem Ym (es:List (List T)) (i:Nat) (hi:i<es.length) (hlim:es.length<=1000000):A17 78 [.row 1 3 0 es.length,.t (.int .i64 i)] [(1,.grow 3 es)] (.row 1 3 0 (es.length-1)) [(1,.grow 3 (es.eraseIdx i))]:=by
 have cd:=Uc [(1,.grow 3 es)] 1 es i Y hi hlim
 have hw:IntKind.i64.wrap ((i:Int)+1)=(i:Int)+1:=by rw[An Aa Aa]
 rw[<-hw]at cd
 refine ct1 Ag Tryz.func78 Y Y ?_
 repeat'(first|exact prB|refine stB ?_|refine stU (fun h=>?_) fun h=>?_|refine stN (fun b hb=>?_)|refine A0 Ag [(1,1)] [(1,1)] Y Y Y Y Y cd Y Y Y Y Y ?_|fail)
 refine Ca ?_
 exact Ba [] Y Y Y (A1x _)
def Ag9 (s f:Int) (rs:List Row) (os:List (List T)) (ps:List Prod):St:=[(3,.grow 5 (rs.map A8)),(5,.grow 3 os),(1,.cells [.t (.int .i64 s),.t (.int .i64 f),.row 3 5 0 (rs.map A8).length,.row 5 3 0 os.length,.t (.slice .any 4 (ps.map Al))])]
theorem TO (s f:Int) (rs:List Row) (os:List (List T)) (ps:List Prod) (b:Batch) (hb:A9 b=true) (h1:0<=f) (h2:f<=1000000000) (h3:rs.length<=2000000):
  A17 77 [.ref 1 0,.agg (Ah (Au b))] (Ag9 s f rs os ps) (.tuple []) (Ag9 s (f+b.recs.length) (rs++Cl b f) os ps):=by
 have hm:=Co hb
 have hlm:(b.recs.map AJ).length=b.recs.length:=List.length_map ..
 have hlr:(Cl b f).length=b.recs.length:=by simp[Cl]
 have hlr2:((Cl b f).map A8).length=b.recs.length:=by simp[Cl]
 have hlr3:(rs.map A8).length=rs.length:=List.length_map ..
 have cr:=Agt b f hb Aa Aa
 refine ct1 Ag Tryz.func77 Y Y ?_
 repeat'(first|exact prB|refine Afy (id:=1) Ag [0] 11 Ab Y Y Y Y Y Y (by rintro ch e s ⟨hx,_⟩;rcases hx with hx|hx<;>cases hx) ?_|refine stC ?_|refine stU (fun h=>?_) fun h=>?_|refine stN (fun b hb=>?_)|refine stD 1 12 ?_|refine stD 2 7 ?_|refine stM ?_ (c:=cr)|refine stL ?_ (c:=cr)|fail)
 refine AZ [3] Y Y ?_ (A1x _)
 have hw:IntKind.i64.wrap (f+((b.recs.map AJ).length:Int))=f+b.recs.length:=by rw[hlm,An Aa Aa]
 rw[hw]
 simp only[Ag9,List.map_append];rfl
theorem Aaz (p:Part) (hs:AR p):A17 75 [.agg (Ah (AD p))] [] (.agg [.t (.int .i64 p.start),.t (.int .i64 p.fin),.row 28 5 0 (p.rows.map A8).length,.row 80 3 0 (p.opens.map As).length,.t (.slice .any 4 (p.prods.map Al))]) [(80,.grow 3 (p.opens.map As)),(28,.grow 5 (p.rows.map A8))]:=by
 rw[List.length_map,List.length_map]
 refine Ct.freezeK (e:=[]) [(90,.grow 4 (p.prods.map Al))] (Ase p hs) ?_
 have b1:Nat.beq 28 90=false:=rfl
 have b2:Nat.beq 80 90=false:=rfl
 have t1:(p.prods.map Al).take p.prods.length=p.prods.map Al:=List.take_of_length_le Ac
 simp[DQ,Aay,Am.look,Ox,AV.has,FF,I9,B5,Gf,b1,b2,t1]
def Bw:List Batch->Int->List Row
 |[],_=>[]
 |b::r,f=>Cl b f++Bw r (f+b.recs.length)
def Cs:List Batch->Nat
 |[]=>0
 |b::r=>b.recs.length+Cs r
theorem G7: ∀(l:List Batch) (b:Batch) (f:Int),Bw (l++[b]) f=Bw l f++Cl b (f+Cs l)
 |[],b,f=>by simp[Bw,Cs]
 |a::r,b,f=>by simp[Bw,G7 r b,Cs,Int.add_assoc]
theorem Jd: ∀(l:List Batch) (b:Batch),Cs (l++[b])=Cs l+b.recs.length
 |[],b=>by simp[Cs]
 |a::r,b=>by simp[Cs,Jd r b];omega
theorem EU: ∀(l:List Batch) (f:Int),(Bw l f).length=Cs l
 |[],f=>rfl
 |a::r,f=>by simp[Bw,Cs,EU r,Cl]
theorem Fp: ∀{l:List Batch},(∀b∈l,A9 b=true)->Cs l<=4*l.length
 |[],_=>Nat.le_refl _
 |a::r,h=>by
  have ih:=Fp (l:=r) fun b hb=>h b (by simp[hb])
  have:=Co (h a Ac)
  simp only[Cs,List.length_cons];omega
def Lz (e i:Int) (o:Opn) (yes:Bool):List Wr:=if e=0 then Dp (Ex e i) [Ib o yes]else LC i o yes
def E1 (p:Part) (o:Opn) (yes:Bool):List Row×Int:=if yes=true then(p.rows++Bw o.batches p.fin,p.fin+Cs o.batches)else(p.rows,p.fin)
def Em (e:Int) (p:Part) (k:Nat) (o:Opn) (yes:Bool):Part:=⟨p.start,(E1 p o yes).2+(if e=0 then 1 else 0),(E1 p o yes).1,p.opens.eraseIdx k,CW p.prods o.pid⟩
def Z4 (p:Part) (w:List Wr):AV:=.tuple [.agg (Ah (AD p)),.t (.slice .any 4 (w.map AF)),.t (.int .i64 0)]
theorem Ahd (e q:Int) (p:Part) (h:F4 e q p=false) (hs:AR p):A17 73 [.t (.int .i8 e),.t (.int .i64 q),.agg (Ah (AD p))] [] (.tuple [.t (wrT e q),.t .nilIface]) []:=by
 have cof:=Aq6 e q p hs
 obtain⟨⟨h1,h2⟩,_⟩:=Aa2 h
 rwa[h1,h2]at cof
theorem I2 {α β:Type} {f:α->β}: ∀(l:List α) (k:Nat),(l.map f).eraseIdx k=(l.eraseIdx k).map f
 |[],k=>by simp
 |a::r,0=>rfl
 |a::r,k+1=>by simp[I2 r k]
theorem PY (s f:Int) (R E P:List (List T)) (k n m:Nat) (hk:k<E.length) (hn:n=R.length) (hm:m=E.length-1):B5 66 5 R (B5 68 3 (E.eraseIdx k) (.agg [.t (.int .i64 s),.t (.int .i64 f),.row 66 5 0 n,.row 68 3 0 m,.t (.slice .any 4 P)]))=.agg [.t (.int .i64 s),.t (.int .i64 f),.t (.slice .any 5 R),.t (.slice .any 3 (E.eraseIdx k)),.t (.slice .any 4 P)]:=by
 subst hn hm
 have h:(E.eraseIdx k).take (E.length-1)=E.eraseIdx k:=List.take_of_length_le (by simp[List.length_eraseIdx,hk])
 have h4:E.length<=(E.eraseIdx k).length+1:=by simp[List.length_eraseIdx,hk];omega
 have b1:Nat.beq 68 66=false:=rfl
 have b2:Nat.beq 66 68=false:=rfl
 simp[B5,FF,b1,b2,h,h4]
theorem Amg (e q:Int) (p:Part) (pid:Int) (yes:Bool) (hs:AR p) (hgood:F4 e q p=false) (k:Nat) (o:Opn) (hk:p.opens[k]?=some o) (hidx:Gc (fun o=>decide (o.pid=pid)) p.opens=(k:Int)) (hany:p.opens.any (fun o=>decide (o.pid=pid))=true) (hpid:o.pid=pid):
  A17 36 [.t (.int .i8 e),.t (.int .i64 q),.agg (Ah (AD p)),.t (.int .i64 pid),.t (.bool yes)] [] (Z4 (Em e p k o yes) (Lz e q o yes)) []:=by
 obtain⟨_,he,hq,hpk⟩:=Aa2 hgood
 have hP:=Dq.1 hpk
 have hs':=hs
 obtain⟨s1,s2,s3,s4⟩:=hs'
 have hcp:=(hP.ook o (List.mem_of_getElem? hk)).1
 have hso:=s3 o (List.mem_of_getElem? hk)
 obtain⟨p1,p2⟩:=FK hcp
 have hbl:=BU hcp
 have hbm: ∀b∈o.batches,A9 b=true:=fun b hb=>(CF hcp b hb).1
 have b0:=hP.b0
 have b1:=hP.b1
 have b2:=hP.b2
 have hlt:=(List.getElem?_eq_some_iff.1 hk).1
 have cof:=Ahd e q p hgood hs
 have cown:=Aaz p hs
 have cf:=O8 p.opens pid s2
 rw[hidx,hany]at cf
 have cw:=Ym (p.opens.map As) k (by simpa using hlt) (by simpa using s2)
 have cc:=Ajh p.prods pid s4
 have hk2:(p.opens.map As)[k]?=some (As o):=CL hk
 have hk3:(p.opens.map As)[0+k]?=some (As o):=by rw[Nat.zero_add];exact hk2
 have hw:(e=0/\wrT e q=.iface 237 (.agg (CM e q)))\/(e=1/\wrT e q=.iface 238 (.agg (CM e q))):=by
  rcases he with rfl|rfl
  ·exact .inl ⟨Y,Y⟩
  ·exact .inr ⟨Y,Y⟩
 rcases hw with⟨he1,hw⟩|⟨he1,hw⟩
 ·rw[hw]at cof
  have cen:=Amj e q he hq o yes p1 p2
  have cm:=Ahs e q
  have hW:Lz e q o yes=Dp (Ex e q) [Ib o yes]:=by simp[Lz,he1]
  rw[hW]
  generalize Dp (Ex e q) [Ib o yes]=W at cen
  cases yes with
  |false=>
   refine ct0 Ag Tryz.func36 Y false Y Y ?_
   repeat'(first|exact prB|refine stC ?_|refine stU (fun h=>?_) fun h=>?_|refine stN (fun b hb=>?_)|refine stD 18 4 ?_|refine stL ?_ (c:=cof)|refine A0 Ag [] [(28,66),(80,68)] Y Y Y Y Y cown Y Y Y Y Y ?_|refine GW Ag Y Y Y (I5 Y Y) cf Y Y ?_|refine CH Ag Y Y Y Y Y Y Y Y (by simpa using hlt) Y ?_|refine Mr Ag (e:=As o) Y Y Y Y Y hk3 Y Y Y ?_|refine stL ?_ (c:=cen)|refine stM ?_ (c:=cm)|refine A0 Ag [(68,1)] [(1,68)] Y Y Y Y Y cw Y Y Y Y Y ?_|refine stL ?_ (c:=cc)|fail)
   refine Ai Y (A1y (Eq.trans (b:=.tuple [B5 66 5 (p.rows.map A8) (B5 68 3 ((p.opens.map As).eraseIdx k) (.agg [.t (.int .i64 p.start),.t (.int .i64 (IntKind.i64.wrap (p.fin+1))),.row 66 5 0 (p.rows.map A8).length,.row 68 3 0 ((p.opens.map As).length-1),.t (.slice .any 4 ((CW p.prods pid).map Al))])),.t (.slice .any 4 (W.map AF)),.t (.int .i64 0)]) Y ?_))
   rw[PY _ _ _ _ _ _ _ _ (by simpa using hlt) Y Y,An Aa Aa]
   simp[Z4,Em,E1,he1,hpid,AD,Ah,I2]
  |true=>
   refine ct0 Ag Tryz.func36 Y false Y Y ?_
   repeat'(first|exact prB|refine stC ?_|refine stU (fun h=>?_) fun h=>?_|refine stN (fun b hb=>?_)|refine stD 18 4 ?_|refine stL ?_ (c:=cof)|refine A0 Ag [] [(28,66),(80,68)] Y Y Y Y Y cown Y Y Y Y Y ?_|refine GW Ag Y Y Y (I5 Y Y) cf Y Y ?_|refine CH Ag Y Y Y Y Y Y Y Y (by simpa using hlt) Y ?_|refine Mr Ag (e:=As o) Y Y Y Y Y hk3 Y Y Y ?_|refine stL ?_ (c:=cen)|fail)
   refine Tr.weak (E:=[(3,.t (.int .i64 pid)),(10,.ref 20 0),(11,.t (.slice .any 4 (W.map AF))),(13,.t (.iface 237 (.agg (CM e q)))),(15,.t (.int .i64 k)),(63,.t (.slice .any 5 (o.batches.map Au))),(64,.t (.int .i64 o.batches.length)),(65,.t (.int .i64 (0:Nat)))]) (S:=[(68,.grow 3 (p.opens.map As)),(66,.grow 5 (p.rows.map A8)),(20,.cells [.t (.int .i64 p.start),.t (.int .i64 p.fin),.row 66 5 0 (p.rows.map A8).length,.row 68 3 0 (p.opens.map As).length,.t (.slice .any 4 (p.prods.map Al))])]) ?_ (AE [7,17] (Af Y Y (Af Y Y (Af Y Y (Af Y Y (Af Y Y (Af Y Y (Af Y (by rw[List.length_map];rfl) (Af Y Y Aj)))))))) Y)
   refine A14 Y ?_
   refine A3 (ι:=Nat) (fun j=>j<=o.batches.length) (fun j=>[(3,.t (.int .i64 pid)),(10,.ref 20 0),(11,.t (.slice .any 4 (W.map AF))),(13,.t (.iface 237 (.agg (CM e q)))),(15,.t (.int .i64 k)),(63,.t (.slice .any 5 (o.batches.map Au))),(64,.t (.int .i64 o.batches.length)),(65,.t (.int .i64 j))]) (fun j=>[(66,.grow 5 ((p.rows++Bw (o.batches.take j) p.fin).map A8)),(68,.grow 3 (p.opens.map As)),(20,.cells [.t (.int .i64 p.start),.t (.int .i64 (p.fin+Cs (o.batches.take j))),.row 66 5 0 ((p.rows++Bw (o.batches.take j) p.fin).map A8).length,.row 68 3 0 (p.opens.map As).length,.t (.slice .any 4 (p.prods.map Al))])]) (fun j=>o.batches.length-j) 0 Ac ?_ ?_
   ·refine AE [] (Af Y Y (Af Y Y (Af Y Y (Af Y Y (Af Y Y (Af Y Y (Af Y Y (Af Y Y Aj)))))))) ?_
    simp only[List.take_zero,Bw,Cs,List.append_nil,Int.natCast_zero,Int.add_zero]
    rfl
   rintro j hj
   by_cases hlt2:j<o.batches.length
   ·have hr:o.batches[j]?=some o.batches[j]:=List.getElem?_eq_getElem hlt2
    have hmb:=hbm o.batches[j] (List.getElem_mem hlt2)
    generalize o.batches[j]=bb at hr hmb
    have hts:=A5 hr
    have hrn:=Fp (l:=o.batches.take j) fun b hb=>hbm b (List.mem_of_mem_take hb)
    have htl:(o.batches.take j).length<=8:=by rw[List.length_take];omega
    have her:=TO p.start (p.fin+Cs (o.batches.take j)) (p.rows++Bw (o.batches.take j) p.fin) (p.opens.map As) p.prods bb hmb Aa Aa (by rw[List.length_append,EU];omega)
    repeat'(first|exact prB|refine stC ?_|refine stU (fun h=>?_) fun h=>?_|refine stN (fun b hb=>?_)|refine stD 18 4 ?_|refine A0 Ag [(66,3),(68,5),(20,1)] [(3,66),(5,68),(1,20)] Y Y Y Y Y her Y Y Y Y Y ?_|fail)
    refine Ay (j+1) hlt2 Aa [19] (Af Y Y (Af Y Y (Af Y Y (Af Y Y (Af Y Y (Af Y Y (Af Y Y (Af Y (by rw[An Aa Aa];rfl) Aj)))))))) ?_
    rw[hts,G7,Jd,<-List.append_assoc,Int.natCast_add,<-Int.add_assoc]
    rfl
   ·have hjn:j=o.batches.length:=by omega
    subst hjn
    rw[List.take_length]
    have hrn:=Fp hbm
    repeat'(first|exact prB|refine stC ?_|refine stU (fun h=>?_) fun h=>?_|refine stN (fun b hb=>?_)|refine stD 18 4 ?_|refine stM ?_ (c:=cm)|refine A0 Ag [(68,1)] [(1,68)] Y Y Y Y Y cw Y Y Y Y Y ?_|refine stL ?_ (c:=cc)|fail)
    refine Ai Y (A1y (Eq.trans (b:=.tuple [B5 66 5 ((p.rows++Bw o.batches p.fin).map A8) (B5 68 3 ((p.opens.map As).eraseIdx k) (.agg [.t (.int .i64 p.start),.t (.int .i64 (IntKind.i64.wrap ((p.fin+Cs o.batches)+1))),.row 66 5 0 ((p.rows++Bw o.batches p.fin).map A8).length,.row 68 3 0 ((p.opens.map As).length-1),.t (.slice .any 4 ((CW p.prods pid).map Al))])),.t (.slice .any 4 (W.map AF)),.t (.int .i64 0)]) Y ?_))
    rw[PY _ _ _ _ _ _ _ _ (by simpa using hlt) Y Y,An Aa Aa]
    simp[Z4,Em,E1,he1,hpid,AD,Ah,I2]
 ·subst he1
  rw[hw]at cof
  have cen:=Amk q hq o yes hcp hso
  have cm:=Aht 1 q
  have hW:Lz 1 q o yes=LC q o yes:=by simp[Lz]
  rw[hW]
  generalize LC q o yes=W at cen
  cases yes with
  |false=>
   refine ct0 Ag Tryz.func36 Y false Y Y ?_
   repeat'(first|exact prB|refine stC ?_|refine stU (fun h=>?_) fun h=>?_|refine stN (fun b hb=>?_)|refine stD 18 4 ?_|refine stL ?_ (c:=cof)|refine A0 Ag [] [(28,66),(80,68)] Y Y Y Y Y cown Y Y Y Y Y ?_|refine GW Ag Y Y Y (I5 Y Y) cf Y Y ?_|refine CH Ag Y Y Y Y Y Y Y Y (by simpa using hlt) Y ?_|refine Mr Ag (e:=As o) Y Y Y Y Y hk3 Y Y Y ?_|refine stL ?_ (c:=cen)|refine stM ?_ (c:=cm)|refine A0 Ag [(68,1)] [(1,68)] Y Y Y Y Y cw Y Y Y Y Y ?_|refine stL ?_ (c:=cc)|fail)
   refine Ai Y (A1y (Eq.trans (b:=.tuple [B5 66 5 (p.rows.map A8) (B5 68 3 ((p.opens.map As).eraseIdx k) (.agg [.t (.int .i64 p.start),.t (.int .i64 (IntKind.i64.wrap (p.fin+0))),.row 66 5 0 (p.rows.map A8).length,.row 68 3 0 ((p.opens.map As).length-1),.t (.slice .any 4 ((CW p.prods pid).map Al))])),.t (.slice .any 4 (W.map AF)),.t (.int .i64 0)]) Y ?_))
   rw[PY _ _ _ _ _ _ _ _ (by simpa using hlt) Y Y,An Aa Aa]
   simp[Z4,Em,E1,hpid,AD,Ah,I2]
  |true=>
   refine ct0 Ag Tryz.func36 Y false Y Y ?_
   repeat'(first|exact prB|refine stC ?_|refine stU (fun h=>?_) fun h=>?_|refine stN (fun b hb=>?_)|refine stD 18 4 ?_|refine stL ?_ (c:=cof)|refine A0 Ag [] [(28,66),(80,68)] Y Y Y Y Y cown Y Y Y Y Y ?_|refine GW Ag Y Y Y (I5 Y Y) cf Y Y ?_|refine CH Ag Y Y Y Y Y Y Y Y (by simpa using hlt) Y ?_|refine Mr Ag (e:=As o) Y Y Y Y Y hk3 Y Y Y ?_|refine stL ?_ (c:=cen)|fail)
   refine Tr.weak (E:=[(3,.t (.int .i64 pid)),(10,.ref 20 0),(11,.t (.slice .any 4 (W.map AF))),(13,.t (.iface 238 (.agg (CM 1 q)))),(15,.t (.int .i64 k)),(63,.t (.slice .any 5 (o.batches.map Au))),(64,.t (.int .i64 o.batches.length)),(65,.t (.int .i64 (0:Nat)))]) (S:=[(68,.grow 3 (p.opens.map As)),(66,.grow 5 (p.rows.map A8)),(20,.cells [.t (.int .i64 p.start),.t (.int .i64 p.fin),.row 66 5 0 (p.rows.map A8).length,.row 68 3 0 (p.opens.map As).length,.t (.slice .any 4 (p.prods.map Al))])]) ?_ (AE [7,17] (Af Y Y (Af Y Y (Af Y Y (Af Y Y (Af Y Y (Af Y Y (Af Y (by rw[List.length_map];rfl) (Af Y Y Aj)))))))) Y)
   refine A14 Y ?_
   refine A3 (ι:=Nat) (fun j=>j<=o.batches.length) (fun j=>[(3,.t (.int .i64 pid)),(10,.ref 20 0),(11,.t (.slice .any 4 (W.map AF))),(13,.t (.iface 238 (.agg (CM 1 q)))),(15,.t (.int .i64 k)),(63,.t (.slice .any 5 (o.batches.map Au))),(64,.t (.int .i64 o.batches.length)),(65,.t (.int .i64 j))]) (fun j=>[(66,.grow 5 ((p.rows++Bw (o.batches.take j) p.fin).map A8)),(68,.grow 3 (p.opens.map As)),(20,.cells [.t (.int .i64 p.start),.t (.int .i64 (p.fin+Cs (o.batches.take j))),.row 66 5 0 ((p.rows++Bw (o.batches.take j) p.fin).map A8).length,.row 68 3 0 (p.opens.map As).length,.t (.slice .any 4 (p.prods.map Al))])]) (fun j=>o.batches.length-j) 0 Ac ?_ ?_
   ·refine AE [] (Af Y Y (Af Y Y (Af Y Y (Af Y Y (Af Y Y (Af Y Y (Af Y Y (Af Y Y Aj)))))))) ?_
    simp only[List.take_zero,Bw,Cs,List.append_nil,Int.natCast_zero,Int.add_zero]
    rfl
   rintro j hj
   by_cases hlt2:j<o.batches.length
   ·have hr:o.batches[j]?=some o.batches[j]:=List.getElem?_eq_getElem hlt2
    have hmb:=hbm o.batches[j] (List.getElem_mem hlt2)
    generalize o.batches[j]=bb at hr hmb
    have hts:=A5 hr
    have hrn:=Fp (l:=o.batches.take j) fun b hb=>hbm b (List.mem_of_mem_take hb)
    have htl:(o.batches.take j).length<=8:=by rw[List.length_take];omega
    have her:=TO p.start (p.fin+Cs (o.batches.take j)) (p.rows++Bw (o.batches.take j) p.fin) (p.opens.map As) p.prods bb hmb Aa Aa (by rw[List.length_append,EU];omega)
    repeat'(first|exact prB|refine stC ?_|refine stU (fun h=>?_) fun h=>?_|refine stN (fun b hb=>?_)|refine stD 18 4 ?_|refine A0 Ag [(66,3),(68,5),(20,1)] [(3,66),(5,68),(1,20)] Y Y Y Y Y her Y Y Y Y Y ?_|fail)
    refine Ay (j+1) hlt2 Aa [19] (Af Y Y (Af Y Y (Af Y Y (Af Y Y (Af Y Y (Af Y Y (Af Y Y (Af Y (by rw[An Aa Aa];rfl) Aj)))))))) ?_
    rw[hts,G7,Jd,<-List.append_assoc,Int.natCast_add,<-Int.add_assoc]
    rfl
   ·have hjn:j=o.batches.length:=by omega
    subst hjn
    rw[List.take_length]
    have hrn:=Fp hbm
    repeat'(first|exact prB|refine stC ?_|refine stU (fun h=>?_) fun h=>?_|refine stN (fun b hb=>?_)|refine stD 18 4 ?_|refine stM ?_ (c:=cm)|refine A0 Ag [(68,1)] [(1,68)] Y Y Y Y Y cw Y Y Y Y Y ?_|refine stL ?_ (c:=cc)|fail)
    refine Ai Y (A1y (Eq.trans (b:=.tuple [B5 66 5 ((p.rows++Bw o.batches p.fin).map A8) (B5 68 3 ((p.opens.map As).eraseIdx k) (.agg [.t (.int .i64 p.start),.t (.int .i64 (IntKind.i64.wrap ((p.fin+Cs o.batches)+0))),.row 66 5 0 ((p.rows++Bw o.batches p.fin).map A8).length,.row 68 3 0 ((p.opens.map As).length-1),.t (.slice .any 4 ((CW p.prods pid).map Al))])),.t (.slice .any 4 (W.map AF)),.t (.int .i64 0)]) Y ?_))
    rw[PY _ _ _ _ _ _ _ _ (by simpa using hlt) Y Y,An Aa Aa]
    simp[Z4,Em,E1,hpid,AD,Ah,I2]
theorem Ami (e q:Int) (p:Part) (pid:Int) (yes:Bool) (hs:AR p) (hgood:F4 e q p=false) (hany:p.opens.any (fun o=>decide (o.pid=pid))=false):
  A17 36 [.t (.int .i8 e),.t (.int .i64 q),.agg (Ah (AD p)),.t (.int .i64 pid),.t (.bool yes)] [] (Z4 p []) []:=by
 have hs':=hs
 obtain⟨s1,s2,s3,s4⟩:=hs'
 have cof:=Ahd e q p hgood hs
 have cown:=Aaz p hs
 have cf:=O8 p.opens pid s2
 rw[hany]at cf
 refine ct0 Ag Tryz.func36 Y false Y Y ?_
 repeat'(first|exact prB|refine stC ?_|refine stU (fun h=>?_) fun h=>?_|refine stN (fun b hb=>?_)|refine stD 18 4 ?_|refine stL ?_ (c:=cof)|refine A0 Ag [] [(28,66),(80,68)] Y Y Y Y Y cown Y Y Y Y Y ?_|refine GW Ag Y Y Y (I5 Y Y) cf Y Y ?_|fail)
 refine Ai Y (Ap ⟨A1y (Eq.trans (b:=B5 66 5 (p.rows.map A8) (B5 68 3 (p.opens.map As) (.agg [.t (.int .i64 p.start),.t (.int .i64 p.fin),.row 66 5 0 (p.rows.map A8).length,.row 68 3 0 (p.opens.map As).length,.t (.slice .any 4 (p.prods.map Al))]))) Y ?_),Ak,A1x _,trivial⟩)
 have b1:Nat.beq 68 66=false:=rfl
 have b2:Nat.beq 66 68=false:=rfl
 have t1:(p.rows.map A8).take p.rows.length=p.rows.map A8:=List.take_of_length_le Ac
 have t2:(p.opens.map As).take p.opens.length=p.opens.map As:=List.take_of_length_le Ac
 simp[Z4,AD,Ah,B5,FF,b1,b2,t1,t2]
structure EO where
 part:Part
 w:List Wr
 e:Int
def EO.av (r:EO):AV:=.tuple [.agg (Ah (AD r.part)),.t (.slice .any 4 (r.w.map AF)),.t (.int .i64 r.e)]
def End (e q:Int) (p:Part) (pid:Int) (yes:Bool):EO:=
 if F4 e q p=true then⟨CS,[],2⟩
 else match p.opens.find? (fun o=>decide (o.pid=pid))with
  |none=>⟨p,[],0⟩
  |some o=>⟨Em e p (Gc (fun o=>decide (o.pid=pid)) p.opens).toNat o yes,Lz e q o yes,0⟩
theorem Atr (e q:Int) (p:Part) (pid:Int) (yes:Bool) (hs:AR p):
  A17 36 [.t (.int .i8 e),.t (.int .i64 q),.agg (Ah (AD p)),.t (.int .i64 pid),.t (.bool yes)] [] (End e q p pid yes).av []:=by
 cases hbad:F4 e q p with
 |true=>
  have cof:=Aq6 e q p hs
  obtain⟨h1,s,h2⟩:=Asi hbad
  have hr:End e q p pid yes=⟨CS,[],2⟩:=by simp[End,hbad]
  rw[hr]
  rw[h1,h2]at cof
  refine ct0 Ag Tryz.func36 Y false Y Y ?_
  repeat'(first|exact prB|refine stC ?_|refine stU (fun h=>?_) fun h=>?_|refine stN (fun b hb=>?_)|refine stD 18 4 ?_|refine stL ?_ (c:=cof)|refine stL ?_ (c:=TV s 2)|fail)
  exact Ai Y (Ap ⟨Adj,Ak,A1x _,trivial⟩)
 |false=>
  cases hf:p.opens.find? (fun o=>decide (o.pid=pid))with
  |none=>
   have hr:End e q p pid yes=⟨p,[],0⟩:=by simp[End,hbad,hf]
   rw[hr]
   have hno:p.opens.any (fun o=>decide (o.pid=pid))=false:=by
    rw[List.any_eq_false];intro o ho;simpa using List.find?_eq_none.1 hf o ho
   exact Ami e q p pid yes hs hbad hno
  |some o=>
   obtain⟨k,hk,hidx,hany⟩:=K3 hf
   have hpid:o.pid=pid:=by simpa using List.find?_some hf
   have hr:End e q p pid yes=⟨Em e p k o yes,Lz e q o yes,0⟩:=by simp[End,hbad,hf,hidx]
   rw[hr]
   exact Amg e q p pid yes hs hbad k o hk hidx hany hpid
def A1q (p:Part) (n:Int):Part:=⟨n,p.fin,p.rows.filter (fun r=>decide (n<=r.offset)),p.opens,p.prods⟩
def A1e (n:Int):Entry:={kind:=2,b:=⟨0,0,0,false,[]⟩,yes:=false,next:=0,offset:=n,row:=⟨0,0,0,[],[]⟩,prod:=HJ}
def Cut (e q:Int) (p:Part) (n:Int):EO:=
 if F4 e q p=true then⟨CS,[],2⟩
 else if n<p.start\/p.fin<n then⟨CS,[],130⟩
 else⟨A1q p n,Dp (Ex e q) [A1e n],0⟩
structure Act2 where
 kind:Int
 b:Batch
 pid:Int
 yes:Bool
 to:Int
def txB (a:Act2):Batch:={a.b with txn:=decide (a.b.pid<=5)}
def Jv (e:Int) (p:Part) (a:Act2):PO:=
 if a.kind=0 then(if(VB e 1 p (txB a)).e≠0 then⟨p,0,[],(VB e 1 p (txB a)).e⟩else VB e 1 p (txB a))
 else if a.kind=1 then(if(End e 1 p a.pid a.yes).e≠0 then⟨p,0,[],(End e 1 p a.pid a.yes).e⟩else⟨(End e 1 p a.pid a.yes).part,0,(End e 1 p a.pid a.yes).w,(End e 1 p a.pid a.yes).e⟩)
 else if a.kind=2 then(if(Cut e 1 p a.to).e≠0 then⟨p,0,[],(Cut e 1 p a.to).e⟩else⟨(Cut e 1 p a.to).part,0,(Cut e 1 p a.to).w,(Cut e 1 p a.to).e⟩)
 else⟨p,0,[],0⟩
theorem TL (l:List Prod) (pid:Int) (hl:l.length<=1000000):A17 94 [.t (.slice .any 4 (l.map Al)),.t (.int .i64 pid)] [] (.tuple [.agg (Ah (Al (BM l pid))),.t (.bool (FE l pid))]) []:=by
 have hlm:(l.map Al).length=l.length:=List.length_map ..
 refine ct0 Ag Tryz.func94 Y false Y Y ?_
 repeat'(first|exact prB|refine stC ?_|refine stU (fun h=>?_) fun h=>?_|refine stN (fun b hb=>?_)|fail)
 refine A3 (ι:=Nat) (fun i=>i<=l.length/\(l.take i).any (fun p=>decide (p.pid=pid))=false) (fun i=>[(0,.t (.slice .any 4 (l.map Al))),(1,.t (.int .i64 pid)),(4,.ref 8 0),(6,.t (.int .i64 i))]) (fun _=>[(8,.cells (Ah Af9.zero))]) (fun i=>l.length-i) 0 Ac ?_ ?_
 ·exact AE [] (Af Y Y (Af Y Y (Af Y Y (Af Y Y Aj)))) Y
 rintro i ⟨hi,hany⟩
 by_cases hlt:i<l.length
 ·have hr:l[i]?=some l[i]:=List.getElem?_eq_getElem hlt
  generalize l[i]=r at hr
  have hi0:l=l.take i++r::l.drop (i+1):=by rw[<-Db hr,List.take_append_drop]
  have hf0:(l.take i).find? (fun p=>decide (p.pid=pid))=none:=by
   rw[List.find?_eq_none];intro x hx;have:=List.any_eq_false.1 hany x hx;simpa using this
  repeat'(first|exact prB|refine stC ?_|refine stU (fun h=>?_) fun h=>?_|refine stN (fun b hb=>?_)|fail)
  ·have hq:l.find? (fun p=>decide (p.pid=pid))=some r:=by
    rw[hi0,List.find?_append,hf0];simp;exact .inl (by simpa using h)
   have hh:FE l pid=true:=List.any_eq_true.2 ⟨r,List.mem_of_getElem? hr,by simpa using h⟩
   exact Ai Y (A1y (by rw[hh,show BM l pid=r by simp[BM,hq]];rfl))
  ·refine Ay (i+1) ⟨hlt,Du hr hany (by simpa using h)⟩ Aa [] (Af Y Y (Af Y Y (Af Y Y (Af Y ?_ Aj)))) Y
   rw[An Aa Aa];rfl
 ·repeat'(first|exact prB|refine stC ?_|refine stU (fun h=>?_) fun h=>?_|refine stN (fun b hb=>?_)|fail)
  have ha:=F0 Aa hany
  have hq:l.find? (fun p=>decide (p.pid=pid))=none:=by
   rw[List.find?_eq_none];intro x hx;have:=List.any_eq_false.1 ha x hx;simpa using this
  refine Ai Y ?_
  rw[show FE l pid=false from ha,show BM l pid=HJ by simp[BM,hq]]
  exact Ap ⟨AA ⟨A1x _,A1x _,A1x _,Ak,trivial⟩,A1x _,trivial⟩
structure TwiceLaw (e:Int) (l:List Act2) (Q:Nat->Part->Prop):Prop where
 zero:Q 0 CS
 small: ∀{i:Nat} {p:Part},Q i p->AR p
 recs: ∀{i:Nat} {a:Act2},l[i]?=some a->a.b.recs.length<=1000000
 step: ∀{i:Nat} {p:Part} {a:Act2},Q i p->l[i]?=some a->Q (i+1) (Jv e p a).part
 again: ∀{i:Nat} {p:Part} {a:Act2},Q i p->l[i]?=some a->(Jv e p a).e=0->a.kind<2->(Jv e (Jv e p a).part a).e=0/\(Jv e (Jv e p a).part a).part=(Jv e p a).part/\(Jv e (Jv e p a).part a).w=[]/\(a.kind=0->(Jv e (Jv e p a).part a).base=(Jv e p a).base)
 told: ∀{i:Nat} {p:Part} {a:Act2},Q i p->l[i]?=some a->(Jv e p a).e=0->a.kind=0->(Jv e p a).w≠[]->FE (Jv e p a).part.prods a.b.pid=true/\((BM (Jv e p a).part.prods a.b.pid).next=IntKind.i64.wrap (a.b.seq+((a.b.recs.map AJ).length:Int)))/\(BM (Jv e p a).part.prods a.b.pid).seen≠[]
end Go.Proofs.YtmohpcgmdheafaaGreatDoor
namespace Go.Proofs.YtmohpcgmdheafaaGreatDoor
open Go.Am
attribute [local irreducible] Decidable.decide
theorem TP {α:Type} {f:α->Int}: ∀{l:List α} {k:Nat} {o x:α},Srt f l->l[k]?=some o->x∈l.eraseIdx k->x∈l/\f x≠f o
 |[],k,o,x,_,h,_=>by simp at h
 |a::r,0,o,x,hs,h,hx=>by
  simp at h;subst h
  simp only[List.eraseIdx_cons_zero]at hx
  have:=(List.pairwise_cons.1 hs).1 x hx
  exact⟨List.mem_cons_of_mem _ hx,by omega⟩
 |a::r,k+1,o,x,hs,h,hx=>by
  simp at h
  simp only[List.eraseIdx_cons_succ]at hx
  have hs':=List.pairwise_cons.1 hs
  rcases List.mem_cons.1 hx with rfl|hx
  ·have:=hs'.1 o (List.mem_of_getElem? h)
   exact⟨by simp,by omega⟩
  ·obtain⟨h1,h2⟩:=TP hs'.2 h hx
   exact⟨List.mem_cons_of_mem _ h1,h2⟩
theorem SW {α:Type} {f:α->Int} {l:List α} {k:Nat} (h:Srt f l):Srt f (l.eraseIdx k):=List.Pairwise.sublist (List.eraseIdx_sublist ..) h
theorem Sl {l:List Prod} (hl:Ef l=true) (pid:Int):CW l pid=if FE l pid=true then Sy l {BM l pid with seen:=[]}else l:=by
 have hs:=(Ep.1 hl).1
 cases hh:FE l pid with
 |false=>
  have:l.findIdx? (fun x=>decide (x.pid=pid))=none:=by rw[List.findIdx?_eq_none_iff];intro x hx;simpa using List.any_eq_false.1 hh x hx
  simp[CW,this]
 |true=>
  have hh2:l.any (fun p=>decide (p.pid=pid))=true:=hh
  obtain⟨i,x,hx,hi,hfx,hpx⟩:=PW hh2
  have hfp:BM l pid=x:=by simp[BM,hfx]
  have hlt:=(List.getElem?_eq_some_iff.1 hx).1
  have hpid:x.pid=pid:=by simpa using hpx
  have hfi:l.findIdx? (fun x=>decide (x.pid=pid))=some i:=by
   unfold SA at hi
   cases hf:l.findIdx? (fun x=>decide (x.pid=pid))with
   |none=>rw[hf]at hi;simp at hi;omega
   |some j=>rw[hf]at hi;simp at hi;exact congrArg some Aa
  rw[if_pos Y,hfp,MD hs]
  simp only[CW,hfi,hx,S2]
  have hsp:l=l.take i++x::l.drop (i+1):=by rw[<-Db hx,List.take_append_drop]
  have hs2:Srt Prod.pid (l.take i++x::l.drop (i+1)):=hsp▸hs
  have h1:=List.pairwise_append.1 hs2
  have h3:=(List.pairwise_cons.1 h1.2.1).1
  refine Aao ?_ (Q8 hs) fun z=>?_
  ·unfold Srt
   rw[List.pairwise_append,List.pairwise_cons]
   exact⟨h1.1,⟨fun y hy=>h3 y hy,(List.pairwise_cons.1 h1.2.1).2⟩,fun a ha b hb=>by
    rcases List.mem_cons.1 hb with rfl|hb
    ·exact h1.2.2 a ha x Ac
    ·exact h1.2.2 a ha b (by simp[hb])⟩
  ·rw[Kg]
   simp only[List.mem_append,List.mem_cons]
   constructor
   ·rintro(h|rfl|h)
    ·exact .inr ⟨List.mem_of_mem_take h,by have:=h1.2.2 z h x Ac;show z.pid≠x.pid;omega⟩
    ·exact .inl Y
    ·exact .inr ⟨List.mem_of_mem_drop h,by have:=h3 z h;show z.pid≠x.pid;omega⟩
   ·rintro(rfl|⟨h,hne⟩)
    ·exact .inr (.inl Y)
    ·rw[hsp]at h
     simp only[List.mem_append,List.mem_cons]at h
     rcases h with h|rfl|h
     ·exact .inl h
     ·exact absurd Y hne
     ·exact .inr (.inr h)
theorem Uf {l:List Prod} (hl:Ef l=true) (pid:Int):Ef (CW l pid)=true:=by
 rw[Sl hl]
 split
 ·rename_i hh
  refine Adv hl ?_
  have hk:=(Ep.1 hl).2 _ (WY hh).1
  have hb:=GA hk
  have:Cx {BM l pid with seen:=[]}:=by unfold Cx at hb⊢;simp only[List.length_nil];omega
  simp[C1,this,BE]
 ·exact hl
theorem XG {l:List Prod} (hl:Ef l=true) {pid k:Int} (hne:k≠pid):FE (CW l pid) k=FE l k/\BM (CW l pid) k=BM l k:=by
 rw[Sl hl]
 split
 ·rename_i hh
  have h2:=(WY hh).2
  have e: ¬({BM l pid with seen:=[]}:Prod).pid=k:=fun e=>hne (by rw[<-e];exact h2)
  rw[Aib hl,Aee hl,if_neg e]
  simp[e]
 ·exact⟨Y,Y⟩
theorem QO: ∀{l:List Batch} {f:Int},0<=f->(∀b∈l,A9 b=true)->Srt Row.offset (Bw l f)/\ ∀r∈Bw l f,f<=r.offset/\r.offset<f+Cs l/\EM r=false
 |[],f,_,_=>⟨List.Pairwise.nil,fun r h=>by simp[Bw]at h⟩
 |b::t,f,hf,hb=>by
  have hbm:=hb b Ac
  obtain⟨h1,h2⟩:=QO (l:=t) (f:=f+b.recs.length) Aa fun x hx=>hb x (by simp[hx])
  have h3: ∀r∈Cl b f,f<=r.offset/\r.offset<f+b.recs.length:=fun r hr=>by
   obtain⟨i,z,hz,rfl⟩:=Wl hr
   have hlt:=(List.getElem?_eq_some_iff.1 hz).1
   simp only[Hc];rw[if_neg Aa];omega
  refine⟨?_,fun r hr=>?_⟩
  ·simp only[Bw,Srt]
   rw[List.pairwise_append]
   exact⟨Agw hf,h1,fun x hx y hy=>by have:=h3 x hx;have:=h2 y hy;omega⟩
  ·simp only[Bw,Cs]at hr⊢
   rcases List.mem_append.1 hr with hr|hr
   ·have:=h3 r hr;exact⟨by omega,by omega,Alg hbm hr⟩
   ·obtain⟨k1,k2,k3⟩:=h2 r hr;exact⟨by omega,by omega,k3⟩
theorem Amh {e:Int} {p:Part} {k:Nat} {o:Opn} {yes:Bool} (h:POk p) (hk:p.opens[k]?=some o) (hf:p.fin+Cs o.batches+1<=1048576):POk (Em e p k o yes):=by
 have h0:=h.b0;have h1:=h.b1;have h2:=h.b2
 have hcp:=(h.ook o (List.mem_of_getElem? hk)).1
 obtain⟨k1,k2⟩:=QO (l:=o.batches) (f:=p.fin) Aa fun b hb=>(CF hcp b hb).1
 have hfin:p.fin<=(Em e p k o yes).fin/\(Em e p k o yes).fin<=p.fin+Cs o.batches+1/\(yes=true->p.fin+Cs o.batches<=(Em e p k o yes).fin):=by
  have hd:(0:Int)<=(if e=0 then 1 else 0)/\(if e=0 then(1:Int)else 0)<=1:=by split<;>omega
  cases yes with
  |false=>
   simp only[Em,E1,Bool.false_eq_true,if_false]
   exact⟨by omega,by omega,fun h=>by cases h⟩
  |true=>
   simp only[Em,E1,if_true]
   exact⟨by omega,by omega,fun _=>by omega⟩
 have hrows: ∀r∈(Em e p k o yes).rows,r∈p.rows\/(yes=true/\r∈Bw o.batches p.fin):=fun r hr=>by
  cases yes with
  |false=>simp only[Em,E1,Bool.false_eq_true,if_false]at hr;exact .inl hr
  |true=>
   simp only[Em,E1,if_true]at hr
   rcases List.mem_append.1 hr with hr|hr
   ·exact .inl hr
   ·exact .inr ⟨Y,hr⟩
 obtain⟨f1,f2,f3⟩:=hfin
 refine⟨h0,by show p.start<=(Em e p k o yes).fin;omega,by show(Em e p k o yes).fin<=1048576;omega,?_,fun r hr=>?_,SW h.osrt,fun r hr=>?_,Uf h.may _,fun x hx=>?_⟩
 ·cases yes with
  |false=>simp only[Em,E1,Bool.false_eq_true,if_false];exact h.srt
  |true=>
   simp only[Em,E1,if_true,Srt]
   rw[List.pairwise_append]
   exact⟨h.srt,k1,fun x hx y hy=>by have:=h.rin x hx;have:=k2 y hy;omega⟩
 ·show p.start<=r.offset/\r.offset<(Em e p k o yes).fin
  rcases hrows r hr with hr|⟨hy,hr⟩
  ·have:=h.rin r hr;omega
  ·have:=k2 r hr;have:=f3 hy;omega
 ·rcases hrows r hr with hr|⟨_,hr⟩
  ·exact h.rok r hr
  ·exact(k2 r hr).2.2
 ·obtain⟨q1,q2⟩:=TP h.osrt hk hx
  obtain⟨c1,c2⟩:=XG h.may (pid:=o.pid) (k:=x.pid) q2
  have:=h.ook x q1
  unfold Akm at this⊢
  show _/\FE (CW p.prods o.pid) x.pid=true/\(BM (CW p.prods o.pid) x.pid).epoch=_/\(BM (CW p.prods o.pid) x.pid).next=_
  rw[c1,c2];exact this
theorem As8 {e q:Int} {p:Part} {pid:Int} {yes:Bool} (h:(End e q p pid yes).e=0):F4 e q p=false/\((p.opens.find? (fun o=>decide (o.pid=pid))=none/\End e q p pid yes=⟨p,[],0⟩)\/ ∃(k:Nat) (o:Opn),p.opens[k]?=some o/\o.pid=pid/\End e q p pid yes=⟨Em e p k o yes,Lz e q o yes,0⟩):=by
 unfold End at h
 split at h
 ·simp at h
 ·rename_i hn
  have h1:F4 e q p=false:=by
   cases hb:F4 e q p with
   |false=>rfl
   |true=>exact absurd hb hn
  refine⟨h1,?_⟩
  cases hf:p.opens.find? (fun o=>decide (o.pid=pid))with
  |none=>exact .inl ⟨Y,by simp[End,h1,hf]⟩
  |some o=>
   obtain⟨k,hk,hidx,_⟩:=K3 hf
   have hpid:o.pid=pid:=by simpa using List.find?_some hf
   exact .inr ⟨k,o,hk,hpid,by simp[End,h1,hf,hidx]⟩
structure TQ (i:Nat) (p:Part):Prop where
 small:AR p
 fin:p.fin<=40*i
 rows:p.rows.length<=40*i
 opens:p.opens.length<=i
theorem TQ.up {i:Nat} {p:Part} (h:TQ i p):TQ (i+1) p:=⟨h.small,by have:=h.fin;omega,by have:=h.rows;omega,by have:=h.opens;omega⟩
theorem TQ.one {i:Nat} {p:Part} {b:Batch} (h:TQ i p) (hi:i<=1000) (hp:POk p) (hb:A9 b=true) (hok:POk (Rt p b)):TQ (i+1) (Rt p b):=by
 have hm:=Co hb
 have h1:=h.fin;have h2:=h.rows;have h3:=h.opens
 have hlr:(Cl b p.fin).length=b.recs.length:=Agx
 have k1:(Rt p b).rows.length<=p.rows.length+4:=by
  cases ht:b.txn with
  |true=>simp[Rt,ht,Af7]
  |false=>simp[Rt,ht,Ro];omega
 have k2:(Rt p b).opens.length<=p.opens.length+1:=by
  cases ht:b.txn with
  |true=>simp only[Rt,ht,if_true,Af7];exact Al3
  |false=>simp[Rt,ht,Ro]
 have k3:(Rt p b).fin<=p.fin+4:=by
  cases ht:b.txn with
  |true=>simp[Rt,ht,Af7];omega
  |false=>simp[Rt,ht,Ro];omega
 exact⟨Tw hok Aa Aa,by omega,by omega,by omega⟩
theorem TQ.end {i:Nat} {e:Int} {p:Part} {k:Nat} {o:Opn} {yes:Bool} (h:TQ i p) (hi:i<=1000) (hp:POk p) (hk:p.opens[k]?=some o):TQ (i+1) (Em e p k o yes):=by
 have h1:=h.fin;have h2:=h.rows;have h3:=h.opens
 have hcp:=(hp.ook o (List.mem_of_getElem? hk)).1
 have hl:=BU hcp
 have hr:=Fp (l:=o.batches) fun b hb=>(CF hcp b hb).1
 have hok:=Amh (e:=e) (yes:=yes) hp hk Aa
 have hd:(0:Int)<=(if e=0 then 1 else 0)/\(if e=0 then(1:Int)else 0)<=1:=by split<;>omega
 have k1:(Em e p k o yes).rows.length<=p.rows.length+32:=by
  cases yes with
  |false=>simp only[Em,E1,Bool.false_eq_true,if_false];omega
  |true=>simp only[Em,E1,if_true,List.length_append,EU];omega
 have k2:(Em e p k o yes).opens.length<=p.opens.length:=by
  simp only[Em];rw[List.length_eraseIdx];split<;>omega
 have k3:(Em e p k o yes).fin<=p.fin+33:=by
  cases yes with
  |false=>simp only[Em,E1,Bool.false_eq_true,if_false];omega
  |true=>simp only[Em,E1,if_true];omega
 exact⟨Tw hok Aa Aa,by omega,by omega,by omega⟩
end Go.Proofs.YtmohpcgmdheafaaGreatDoor
namespace Go.Proofs.YtmohpcgmdheafaaGreatDoor
open Go.Am
attribute [local irreducible] Decidable.decide Tr A2 hSK hSW
theorem GD (b sz:Nat) (es:List (List T)) (n:Nat) (h:n=es.length):B5 b sz es (.row b sz 0 n)=.t (.slice .any sz es):=by
 subst h
 simp[B5]
def plI (l:List Prod) (k:Int):Nat:=(l.findIdx? (fun x=>decide (x.pid>=k))).getD l.length
theorem Asd {l:List Prod} {k:Int} {i:Nat} {x:Prod} (h:l[i]?=some x) (ha:(l.take i).any (fun x=>decide (x.pid>=k))=false) (hp:k<=x.pid):plI l k=i:=by
 have hlt:=(List.getElem?_eq_some_iff.1 h).1
 have e:=(List.getElem?_eq_some_iff.1 h).2
 have:l.findIdx? (fun x=>decide (x.pid>=k))=some i:=by
  rw[List.findIdx?_eq_some_iff_getElem]
  refine⟨hlt,by rw[e];simpa using hp,fun j hj=>?_⟩
  have:=List.any_eq_false.1 ha l[j] (List.mem_take_iff_getElem.2 ⟨j,by omega,Y⟩)
  simpa using this
 simp[plI,this]
theorem Asb {l:List Prod} {k:Int} (ha:l.any (fun x=>decide (x.pid>=k))=false):plI l k=l.length:=by
 have:l.findIdx? (fun x=>decide (x.pid>=k))=none:=by
  rw[List.findIdx?_eq_none_iff];intro x hx;simpa using List.any_eq_false.1 ha x hx
 simp[plI,this]
theorem Asc (l:List Prod) (k:Int):plI l k<=l.length:=by
 unfold plI
 cases h:l.findIdx? (fun x=>decide (x.pid>=k))with
 |none=>simp
 |some i=>have:=(List.findIdx?_eq_some_iff_getElem.1 h).1;simp;omega
def plB (l:List Prod) (k:Int):Bool:=decide ((l[plI l k]?.map Prod.pid)=some k)
theorem Ak9 (l:List Prod) (p:Prod):Sy l p=l.take (plI l p.pid)++p::l.drop (if plB l p.pid=true then plI l p.pid+1 else plI l p.pid):=by
 unfold Sy plB plI
 cases h:l.findIdx? (fun x=>decide (x.pid>=p.pid))with
 |none=>simp[S2]
 |some i=>
  simp only[Option.getD_some,decide_eq_true_eq]
  split<;>rfl
theorem YU (l:List Prod) (k:Int) (hl:l.length<=1000000):A17 293 [.t (.slice .any 4 (l.map Al)),.t (.int .i64 k)] [] (.tuple [.t (.int .i64 (plI l k:Int)),.t (.bool (plB l k))]) []:=by
 have hlm:(l.map Al).length=l.length:=List.length_map ..
 refine ct0 Ag Tryz.func293 Y false Y Y ?_
 repeat'(first|exact prB|refine stB ?_|refine stU (fun h=>?_) fun h=>?_|refine stN (fun b hb=>?_)|refine stD 4 15 ?_|fail)
 refine A3 (ι:=Nat) (fun i=>i<=l.length/\(l.take i).any (fun x=>decide (x.pid>=k))=false) (fun i=>[(0,.t (.slice .any 4 (l.map Al))),(1,.t (.int .i64 k)),(6,.t (.int .i64 i))]) (fun _=>[]) (fun i=>l.length-i) 0 Ac ?_ ?_
 ·exact AE [] (Af Y Y (Af Y Y (Af Y Y Aj))) Y
 rintro i ⟨hi,hany⟩
 by_cases hlt:i<l.length
 ·have hr:l[i]?=some l[i]:=List.getElem?_eq_getElem hlt
  generalize l[i]=r at hr
  by_cases hk:r.pid<k
  ·repeat'(first|exact prB|refine stC ?_|refine stU (fun h=>?_) fun h=>?_|refine stN (fun b hb=>?_)|refine stD 4 15 ?_|fail)
   all_goals try(exfalso;omega)
   all_goals refine Ay (i+1) ⟨hlt,Du hr hany (by simp;omega)⟩ Aa [] (Af Y Y (Af Y Y (Af Y (by rw[An Aa Aa];rfl) Aj))) Y
  ·have hp:=Asd hr hany Aa
   have hb:plB l k=decide (r.pid=k):=by simp[plB,hp,hr]
   rw[hp,hb]
   repeat'(first|exact prB|refine stC ?_|refine stU (fun h=>?_) fun h=>?_|refine stN (fun b hb=>?_)|refine stD 4 15 ?_|fail)
   all_goals try(exfalso;omega)
   all_goals exact Ai Y (Ap ⟨A1x _,AP (by first|rfl|(by_cases h:r.pid=k<;>simp[h])),trivial⟩)
 ·have hp:=Asb (k:=k) (l:=l) (by rw[<-hany,List.take_of_length_le Aa])
  have hb:plB l k=false:=by simp[plB,hp]
  have e:i=l.length:=by omega
  subst e
  rw[hp,hb]
  repeat'(first|exact prB|refine stC ?_|refine stU (fun h=>?_) fun h=>?_|refine stN (fun b hb=>?_)|refine stD 4 15 ?_|fail)
  all_goals exact Ai Y (A1y Y)
theorem Ago (l:List Prod) (p:Prod) (hl:l.length<=1000):A17 234 [.t (.slice .any 4 (l.map Al)),.agg (Ah (Al p))] [] (.t (.slice .any 4 ((Sy l p).map Al))) []:=by
 have hlm:(l.map Al).length=l.length:=List.length_map ..
 have cp:=YU l p.pid Aa
 have hle:=Asc l p.pid
 have hbk:plB l p.pid=true->plI l p.pid<l.length:=fun h=>by
  simp only[plB,decide_eq_true_eq]at h
  cases hg:l[plI l p.pid]? with
  |none=>rw[hg]at h;simp at h
  |some x=>exact(List.getElem?_eq_some_iff.1 hg).1
 rw[Ak9]
 generalize plI l p.pid=k at*
 generalize plB l p.pid=b at*
 have hw:IntKind.i64.wrap ((k:Int)+1)=((k+1:Nat):Int):=by rw[An Aa Aa];rfl
 have ht:(l.take k).length<=1000:=by rw[List.length_take];omega
 cases b with
 |true=>
  have hlt:=hbk Y
  refine ct0 Ag Tryz.func234 Y false Y Y ?_
  repeat'(first|exact prB|refine stC ?_|refine stU (fun h=>?_) fun h=>?_|refine stN (fun b hb=>?_)|refine stL ?_ (c:=cp)|refine KF Ag (l:=0) (h:=k) Y Y Y Y Y Y (Up Y Y) Uo Aa Aa (.inl ⟨Y,Y⟩) (show _=(l.take k).map Al by simp[List.map_take]) Y ?_|refine KF Ag (l:=k+1) (h:=(l.map Al).length) Y Y Y Y Y Y Uo (Up Y hw) Aa Aa (.inl ⟨Y,Y⟩) (show _=(l.drop (k+1)).map Al by rw[<-List.map_drop,List.take_of_length_le Ac]) Y ?_|fail)
  refine Ai Y (A1y ((GD _ _ _ _ Y).trans ?_))
  rw[List.map_append,List.map_cons,List.append_assoc]
  rfl
 |false=>
  refine ct0 Ag Tryz.func234 Y false Y Y ?_
  repeat'(first|exact prB|refine stC ?_|refine stU (fun h=>?_) fun h=>?_|refine stN (fun b hb=>?_)|refine stL ?_ (c:=cp)|refine KF Ag (l:=0) (h:=k) Y Y Y Y Y Y (Up Y Y) Uo Aa Aa (.inl ⟨Y,Y⟩) (show _=(l.take k).map Al by simp[List.map_take]) Y ?_|refine KF Ag (l:=k) (h:=(l.map Al).length) Y Y Y Y Y Y Uo (Up Y Y) Aa Aa (.inl ⟨Y,Y⟩) (show _=(l.drop k).map Al by rw[<-List.map_drop,List.take_of_length_le Ac]) Y ?_|fail)
  refine Ai Y (A1y ((GD _ _ _ _ Y).trans ?_))
  rw[List.map_append,List.map_cons,List.append_assoc]
  rfl
theorem Mo (b:Batch) (hb:A9 b=true):A17 95 [.agg (Ah (Au b))] [] (.t (.int .i64 (DK b))) []:=by
 have hm:=Co hb
 have hlm:(b.recs.map AJ).length=b.recs.length:=List.length_map ..
 refine ct0 Ag Tryz.func95 Y false Y Y ?_
 repeat'(first|exact prB|refine stC ?_|refine stU (fun h=>?_) fun h=>?_|refine stN (fun b hb=>?_)|fail)
 refine Ai Y (A1y ?_)
 rw[hlm,An Aa Aa];rfl
theorem ZH (l:List Prod) (k:Int) (hl:Ef l=true):A17 172 [.t (.slice .any 4 (l.map Al)),.t (.int .i64 k)] [] (.t (.slice .any 4 ((CW l k).map Al))) []:=by
 have hs:=Kh hl
 have hl8:=Kl hl Aa
 have cf:=TL l k Aa
 have cs:=Ago l {BM l k with seen:=[]} Aa
 rw[Sl hl]
 cases hh:FE l k with
 |false=>
  rw[hh]at cf
  refine ct0 Ag Tryz.func172 Y false Y Y ?_
  repeat'(first|exact prB|refine stC ?_|refine stU (fun h=>?_) fun h=>?_|refine stN (fun b hb=>?_)|refine stL ?_ (c:=cf)|fail)
  all_goals exact Ai Y (A1y Y)
 |true=>
  rw[hh]at cf
  refine ct0 Ag Tryz.func172 Y false Y Y ?_
  repeat'(first|exact prB|refine stC ?_|refine stU (fun h=>?_) fun h=>?_|refine stN (fun b hb=>?_)|refine stL ?_ (c:=cf)|refine BG Ag Y Y Y Y (cs) Y Y Y ⟨A1x _,AA ⟨A1x _,A1x _,A1x _,Ak,trivial⟩,trivial⟩ ?_|fail)
  all_goals exact Ai Y (A1y Y)
end Go.Proofs.YtmohpcgmdheafaaGreatDoor
