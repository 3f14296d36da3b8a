/- Contracts and laws, joined: Tc, Td, Tf. No condition beside those that each theorem names. -/
import Derived.Test.YtpdmaenhenfofaaGreatDoorZM10
import Derived.Test.YtpdmaenhenfofaaGreatDoorZM11
import Derived.Test.YtpdmaenhenfofaaGreatDoorZJ13
import Derived.Test.YtpdmaenhenfofaaGreatDoorZJ12
import Derived.Test.YtpdmaenhenfofaaGreatDoorZDm
import Derived.Test.YtpdmaenhenfofaaGreatDoorZJ10
set_option linter.unusedVariables false
set_option linter.unusedSimpArgs false
namespace Go.Proofs.YtpdmaenhenfofaaGreatDoor
open Go.Am
attribute [local irreducible] Decidable.decide
set_option maxRecDepth 100000
set_option maxHeartbeats 1000000
def Cr (l:List Prod) (pid:Int):List Prod:=match l.findIdx? (fun x=>decide (x.pid=pid))with
 |some i=>(match l[i]? with
  |some x=>Oe l i (i+1) {x with seen:=[]}
  |none=>l)
 |none=>l
theorem Vh (pid:Int) (p:Prod):Ct Tryz.prog 107 (.agg (Aj (Av p))::Aj [.ptr [.int .i64 pid]]) [] (.t (.bool (decide (p.pid=pid)))) []:=by
 refine ct0 Ac Tryz.func107 J false J J ?_
 repeat'(first|refine Ae Ac J J J ?_|refine Ag ?_|refine Ah ?_|refine Ai Ac J J ?_|refine Ar ?_)
 exact Au J (Sub.refl _)
theorem Ab5 (l:List Prod) (pid:Int) (hl:EN l):Ct Tryz.prog 57 [.t (.slice .any 4 (l.map Av)),.t (.int .i64 pid)] [] (.t (.slice .any 4 ((Cr l pid).map Av))) []:=by
 have hlen:=hl.1
 have cf:=Ix 107 [.ptr [.int .i64 pid]] (fun p=>decide (p.pid=pid)) l O (Vh pid) J
 refine ct0 Ac Tryz.func57 J false J J ?_
 refine Ah ?_
 refine Ai Ac J J ?_
 repeat'(first|refine Ae Ac J J J ?_|refine Ag ?_)
 refine Tr.freezeBox (cs:=[.int .i64 pid]) 3 6 J J J J ?_
 cases hh:l.any (fun p=>decide (p.pid=pid))with
 |false=>
  rw[hh]at cf
  have hs:Cr l pid=l:=by
   have:l.findIdx? (fun x=>decide (x.pid=pid))=none:=by rw[List.findIdx?_eq_none_iff];intro x hx;simpa using List.any_eq_false.1 hh x hx
   simp[Cr,this]
  repeat'(first|refine Ae Ac J J J ?_|refine Ag ?_|refine Ah ?_|refine Ai Ac J J ?_|(refine Af J (ht:=fun h=>?_) (hf:=fun h=>?_)<;>try exact prn)|refine Ar ?_|refine Ak Ac J J J J J J J (cf) J J ?_)
  exact Au J (Sub.of_eq (by rw[hs];rfl))
 |true=>
  obtain⟨i,x,hx,hi,_,_⟩:=JK hh
  rw[hh,hi]at cf
  have hlt:=(List.getElem?_eq_some_iff.1 hx).1
  have hfi:l.findIdx? (fun x=>decide (x.pid=pid))=some i:=by
   unfold Nn at hi
   cases hf:l.findIdx? (fun x=>decide (x.pid=pid))with
   |none=>rw[hf]at hi;simp at hi;omega
   |some j=>rw[hf]at hi;simp at hi;exact congrArg some O
  have cp1:=GW l i (i+1) {x with seen:=[]} hl O O Z
  have hw:IntKind.i64.wrap ((i:Int)+1)=((i+1:Nat):Int):=by rw[A0 O O];rfl
  rw[←hw]at cp1
  repeat'(first|refine An Ac J J J J J ?_|refine Ae Ac J J J ?_|refine Ag ?_|refine Ah ?_|refine Ai Ac J J ?_|(refine Af J (ht:=fun h=>?_) (hf:=fun h=>?_)<;>try exact prn)|refine Ao ?_|refine Ar ?_|refine AD Ac J J J J J J J (A2 Aa) J ?_|refine Ak Ac J J J J J J J (cf) J J ?_|refine Ck Ac J J J J (cp1) J J J ⟨Sub.refl _,Sub.refl _,Sub.refl _,(by refine B7 ?_;exact⟨Sub.refl _,Sub.refl _,Sub.refl _,A6,trivial⟩),trivial⟩ ?_)
  refine Au J (Sub.of_eq ?_)
  simp[Cr,hfi,hx]
theorem Ada (e i:Int) (he:e=0∨e=1) (hi:i=0∨i=1∨i=2) (l:List Entry) (hl:l.length≤1000000) (hsm: ∀x∈l,DV x) (hok:PJ l=0):Ct Tryz.prog 265 [.agg (Aj (BK e i)),.t (.slice .any 18 (l.map A4)),.t (.int .i64 0)] [] (.tuple [.t (.slice .any 4 ((Of (DH e i) l).map BV)),.t .nilIface]) []:=by
 have cl:=G2 e i he hi
 have cp:=LO (DH e i) l hl hsm
 rw[hok]at cp
 refine ct0 Ac Tryz.func265 J false J J ?_
 repeat'(first|refine Ae Ac J J J ?_|refine Ag ?_|refine Ah ?_|refine Ai Ac J J ?_|(refine Af J (ht:=fun h=>?_) (hf:=fun h=>?_)<;>try exact prn)|refine Ao ?_|refine Ar ?_|refine Ak Ac J J J J J J J (cl) J J ?_|refine Ak Ac J J J J J J J (cp) J J ?_)
 exact Au J (Sub.refl _)
def Kf (o:Opn) (yes:Bool):Entry:={kind:=1,b:=⟨o.pid,o.epoch,0,false,[]⟩,yes:=yes,next:=0,offset:=0,row:=⟨0,0,0,[],[]⟩,prod:=CZ}
theorem OS {o:Opn} {yes:Bool} (h1:1≤o.pid∧o.pid≤8) (h2:0≤o.epoch∧o.epoch≤100):B9 (Kf o yes)=true:=by
 have h:Dm (Kf o yes)=true:=by simp[Dm,Fd,Kf,IG,CZ]
 simp only[B9,h,Bool.true_and]
 simp[Kf,h1.1,h1.2,h2.1,h2.2]
theorem Aeg (e i:Int) (he:e=0∨e=1) (hi:i=0∨i=1∨i=2) (o:Opn) (yes:Bool) (h1:1≤o.pid∧o.pid≤8) (h2:0≤o.epoch∧o.epoch≤100):Ct Tryz.prog 262 [.t (.agg (BK e i)),.agg (Aj (Aw o)),.t (.bool yes)] [] (.tuple [.t (.slice .any 4 ((CX (DH e i) [Kf o yes]).map BV)),.t .nilIface]) []:=by
 have hm:B9 (Kf o yes)=true:=OS h1 h2
 have cp:=Ada e i he hi [Kf o yes] Z (by simp[DV,Kf,CZ]) (by simp[PJ,hm])
 rw[show Of (DH e i) [Kf o yes]=CX (DH e i) [Kf o yes]by simp[Of,hm]]at cp
 refine ct0 Ac Tryz.func262 J false J J ?_
 repeat'(first|refine An Ac J J J J J ?_|refine Ae Ac J J J ?_|refine Ag ?_|refine Ah ?_|refine Ai Ac J J ?_|refine Ar ?_|refine Ck Ac J J J J cp J J J ⟨Sub.refl _,Hh ⟨⟨AJ.refl _,AJ.refl _,AJ.refl _,AJ.refl _,AJ.refl _,AJ.nil,AJ.refl _,AJ.refl _,AJ.refl _,AJ.refl _,AJ.refl _,AJ.refl _,AJ.refl _,AJ.refl _,AJ.refl _,AJ.refl _,AJ.refl _,AJ.nil,trivial⟩,trivial⟩,Sub.refl _,trivial⟩ ?_)
 exact Au J (Sub.refl _)
def Ke (o:Opn):Entry:={kind:=4,b:=⟨o.pid,o.epoch,0,false,[]⟩,yes:=false,next:=D3 o.batches,offset:=0,row:=⟨0,0,0,[],[]⟩,prod:=CZ}
theorem RD {pid ep:Int}: ∀{l:List Batch} {n:Int},Cj pid ep n l=true→ ∀b∈l,A1 b=true∧b.txn=true∧b.pid=pid∧b.epoch=ep
 |[],_,_,b,hb=>by simp at hb
 |a::r,n,h,b,hb=>by
  simp only[Cj,Bool.and_eq_true,decide_eq_true_eq]at h
  rcases List.mem_cons.1 hb with rfl|hb
  ·exact⟨h.1.1.1.1.1,h.1.1.1.1.2,h.1.1.1.2,h.1.1.2⟩
  ·exact RD h.2 b hb
theorem C8 {o:Opn} (h:BZ o=true): ∀b∈o.batches,A1 b=true∧b.txn=true∧b.pid=o.pid∧b.epoch=o.epoch:=by
 simp only[BZ,Bool.and_eq_true]at h
 exact RD h.2
theorem EE {o:Opn} (h:BZ o=true):(1≤o.pid∧o.pid≤8)∧0≤o.epoch∧o.epoch≤100:=by
 have hl:=Cc h
 obtain⟨b,hb⟩: ∃b,b∈o.batches:=List.exists_mem_of_length_pos O
 obtain⟨h1,_,h2,h3⟩:=C8 h b hb
 have hbb:=Fv h1
 unfold Cm at hbb
 omega
theorem Ro: ∀{l:List Batch},l≠[]→ ∃b∈l,D3 l=Bo b
 |[],h=>absurd J h
 |[a],_=>⟨a,by simp,J⟩
 |a::c::r,_=>by
  obtain⟨b,h1,h2⟩:=Ro (l:=c::r) Z
  exact⟨b,by simp at h1⊢;exact .inr h1,by simpa[D3]using h2⟩
theorem Iq {o:Opn} (h:BZ o=true):0≤D3 o.batches∧D3 o.batches≤1048576:=by
 have hl:=Cc h
 obtain⟨b,hb,e⟩:=Ro (l:=o.batches) (fun h=>by rw[h]at hl;simp at hl)
 have:=AU (C8 h b hb).1
 rw[e];unfold Bo;omega
theorem OR {o:Opn} (h:BZ o=true):B9 (Ke o)=true:=by
 obtain⟨h1,h2⟩:=EE h
 have h3:=Iq h
 have hb:Dm (Ke o)=true:=by simp[Dm,Fd,Ke,IG,CZ]
 simp only[B9,hb,Bool.true_and]
 simp[Ke,h1.1,h1.2,h2.1,h2.2,h3.1,h3.2]
theorem Iz {o:Opn} (h:BZ o=true):(BC o).all B9=true∧BC o≠[]∧ ∀x∈BC o,DV x:=by
 have hl:=Cc h
 have h3:=Iq h
 have key: ∀x∈BC o,B9 x=true∧DV x:=fun x hx=>by
  obtain⟨i,hi,rfl⟩:=List.mem_iff_getElem.1 hx
  simp only[BC,List.length_mapIdx]at hi
  obtain⟨q1,q2,_⟩:=C8 h o.batches[i] (List.getElem_mem hi)
  have hm:=AU q1
  simp only[BC,List.getElem_mapIdx,Fs]
  split
  ·refine⟨?_,by simp[DV];omega⟩
   have hb:Dm ⟨3,o.batches[i],true,D3 o.batches,0,Ia,DG⟩=true:=by simp[Dm,Fd]
   simp only[B9,hb,Bool.true_and]
   simp[q1,q2,h3.1,h3.2]
  ·refine⟨?_,by simp[DV];omega⟩
   have hb:Dm ⟨3,o.batches[i],false,0,0,Ia,DG⟩=true:=by simp[Dm,Fd]
   simp only[B9,hb,Bool.true_and]
   simp[q1,q2]
 refine⟨List.all_eq_true.2 fun x hx=>(key x hx).1,fun he=>?_,fun x hx=>(key x hx).2⟩
 have:(BC o).length=o.batches.length:=by simp[BC]
 rw[he]at this;simp at this;omega
theorem Aeq (o:Opn) (h:BZ o=true) (hs:HY o):Ct Tryz.prog 269 [.agg (Aj (Aw o))] [] (.tuple [.agg (Aj (A4 (Ke o))),.t (.int .i64 0)]) []:=by
 have cc:=Pz o hs
 rw[show ccT o=.nilIface by simp[ccT,h]]at cc
 have hl:=Cc h
 have cb:=P0 o hl.1 hl.2 (fun b hb=>(C8 h b hb).1)
 refine ct0 Ac Tryz.func269 J false J J ?_
 repeat'(first|refine An Ac J J J J J ?_|refine Ae Ac J J J ?_|refine Ag ?_|refine Ah ?_|refine Ai Ac J J ?_|(refine Af J (ht:=fun h=>?_) (hf:=fun h=>?_)<;>try exact prn)|refine Ao ?_|refine Ar ?_|refine A9 (id:=4) (m:=7) Ac Y J J J J ?_|refine AA J J J J ?_|refine Ak Ac J J J J J J J (cc) J J ?_|refine AO J J J J J (cb) J J ?_)
 refine Au J (AK ⟨B7 ?_,Sub.refl _,trivial⟩)
 exact⟨Sub.refl _,Sub.refl _,Sub.refl _,Sub.refl _,Sub.refl _,A6,Sub.refl _,Sub.refl _,Sub.refl _,Sub.refl _,Sub.refl _,Sub.refl _,Sub.refl _,Sub.refl _,Sub.refl _,Sub.refl _,Sub.refl _,A6,trivial⟩
theorem Abq (name:Bs) (l:List Entry) (hl:l.length≤1000000) (hsm: ∀x∈l,DV x) (hall:l.all B9=true) (hne:l≠[]):Ct Tryz.prog 11 [.t (.str name),.t (.slice .any 18 (l.map A4))] [] (.tuple [.row 86 4 0 ((CX name l).map BV).length,.t (.int .i64 0)]) [(86,.grow 4 ((CX name l).map BV))]:=by
 refine ct1 Ac Tryz.func11 J J ?_
 have cl:=O2 l hl hsm
 simp only[if_pos hall]at cl
 have hlm:((l.map AH).map DE).length=l.length:=by simp
 have hpos:l.length≠0:=fun e=>hne (List.eq_nil_of_length_eq_zero e)
 repeat'(first|refine Ae Ac J J J ?_|refine Ag ?_|refine Ah ?_|refine Ai Ac J J ?_|(refine AP J J J J J (ht:=fun h=>?_) (hf:=fun h=>?_)<;>try exact prn)|(refine Af J (ht:=fun h=>?_) (hf:=fun h=>?_)<;>try exact prn)|refine Al ?_|refine Ao ?_|refine Ak Ac J J J J J J J (cl) J J ?_)
 all_goals try(exfalso;omega)
 refine Tr.nilRow 8 43 4 J J ?_
 refine AM (ι:=Nat) (fun i=>i≤l.length) (fun i=>[(0,.t (.str name)),(8,.row 86 4 0 (((l.take i).map (KJ name)).map BV).length),(25,.t (.slice .any 1 ((l.map AH).map DE))),(26,.t (.int .i64 l.length)),(27,.t (.int .i64 i))]) (fun i=>[(86,.grow 4 (((l.take i).map (KJ name)).map BV))]) (fun i=>l.length-i) 0 Z ?_ ?_
 ·exact AR [] (Ad J J (Ad J J (Ad J J (Ad J (by rw[hlm]) (Ad J J Aq))))) J
 rintro i hi
 by_cases hlt:i<l.length
 ·have hr:l[i]?=some l[i]:=List.getElem?_eq_getElem hlt
  have hm:=List.all_eq_true.1 hall l[i] (List.getElem_mem hlt)
  generalize l[i]=r at hr hm
  have hr2:(l.map AH)[i]?=some (AH r):=by simp[hr]
  repeat'(first|refine An Ac J J J J J ?_|refine Ae Ac J J J ?_|refine Ag ?_|refine Ah ?_|refine Ai Ac J J ?_|(refine Af J (ht:=fun h=>?_) (hf:=fun h=>?_)<;>try exact prn)|refine Al ?_|refine Ao ?_|refine AD Ac J J J J J J J (A2 Aa) J ?_|refine AN Ac J J J J J J J J J J J J J J (by simp[AW];omega) ?_|refine Ak Ac J J J J J J J (M8 _ (Fr hm)) J J ?_)
  refine AF (i+1) hlt O [] (Ad J J (Ad J ?_ (Ad J J (Ad J J (Ad J ?_ Aq))))) ?_
  ·rw[AL hr];simp[AW]
  ·rw[A0 O O];rfl
  ·rw[AL hr];simp[AW,SU,BV,KJ,FZ,DO]
 ·repeat'(first|refine An Ac J J J J J ?_|refine Ae Ac J J J ?_|refine Ag ?_|refine Ah ?_|refine Ai Ac J J ?_|(refine Af J (ht:=fun h=>?_) (hf:=fun h=>?_)<;>try exact prn)|refine AB ?_|refine AN Ac J J J J J J J J J J J J J J (by simp[AW];omega) ?_)
  refine Ar ?_
  have he:(CX name l).map BV=((l.take i).map (KJ name)).map BV++[BV ⟨1,name,[],0⟩]:=by
   rw[List.take_of_length_le O];simp[CX]
  rw[he]
  exact BR [] J J J (Sub.refl _)
theorem SY (e i:Int) (he:e=0∨e=1) (hi:i=0∨i=1∨i=2) (l:List Entry) (hl:l.length≤1000000) (hsm: ∀x∈l,DV x) (hall:l.all B9=true) (hne:l≠[]):Ct Tryz.prog 265 [.agg (Aj (BK e i)),.t (.slice .any 18 (l.map A4)),.t (.int .i64 0)] [] (.tuple [.row 86 4 0 ((CX (DH e i) l).map BV).length,.t .nilIface]) [(86,.grow 4 ((CX (DH e i) l).map BV))]:=by
 have cl:=G2 e i he hi
 have cp:=Abq (DH e i) l hl hsm hall hne
 refine ct1 Ac Tryz.func265 J J ?_
 repeat'(first|refine Ae Ac J J J ?_|refine Ag ?_|refine Ah ?_|refine Ai Ac J J ?_|(refine Af J (ht:=fun h=>?_) (hf:=fun h=>?_)<;>try exact prn)|refine Ao ?_|refine Ak Ac J J J J J J J (cl) J J ?_|refine A7 Ac [] [(86,86)] J J J J J cp J J J J J ?_)
 refine Ar ?_
 exact BR [3] J J J (Sub.refl _)
def R2 (i:Int) (o:Opn) (yes:Bool):List Wr:=CX (DH 1 i) (if yes=true then BC o else[Ke o])++[⟨4,MQ i o.pid,[],0⟩]
theorem Aeh (i:Int) (hi:i=0∨i=1∨i=2) (o:Opn) (yes:Bool) (h:BZ o=true) (hs:HY o):Ct Tryz.prog 266 [.t (.agg (BK 1 i)),.agg (Aj (Aw o)),.t (.bool yes)] [] (.tuple [.t (.slice .any 4 ((R2 i o yes).map BV)),.t .nilIface]) []:=by
 have hl:=Cc h
 have cd:=Aeq o h hs
 have cc:=JU o h
 obtain⟨m1,m2,m3⟩:=Iz h
 have hx:=OR h
 have hlc:(BC o).length=o.batches.length:=by simp[BC]
 obtain⟨p1,p2⟩:=EE h
 have csd:=Xc i o.pid hi O
 cases yes with
 |true=>
  have cp:=SY 1 i (.inr J) hi (BC o) O m3 m1 m2
  have hwl:(CX (DH 1 i) (BC o)).length≤100:=by simp[CX];omega
  refine ct0 Ac Tryz.func266 J false J J ?_
  repeat'(first|refine An Ac J J J J J ?_|refine Ae Ac J J J ?_|refine Ag ?_|refine Ah ?_|refine Ai Ac J J ?_|(refine Af J (ht:=fun h=>?_) (hf:=fun h=>?_)<;>try exact prn)|refine Ao ?_|refine Ar ?_|refine AN Ac J J J J J J J J J J J J J J (by simp[AW];omega) ?_|refine Ak Ac J J J J J J J (cd) J J ?_|refine Ak Ac J J J J J J J (cc) J J ?_|refine A7 Ac [] [(86,86)] J J J J J cp J J J J J ?_|refine Ak Ac J J J J J J J (csd) J J ?_)
  refine Au J (Sub.of_eq ?_)
  simp[R2,BA,BV,AW,SU]
  try exact List.take_of_length_le Z
 |false=>
  have cp:=SY 1 i (.inr J) hi [Ke o] Z (by simp[DV,Ke,CZ]) (by simp[hx]) Z
  have hwl:(CX (DH 1 i) [Ke o]).length≤100:=by simp[CX]
  refine ct0 Ac Tryz.func266 J false J J ?_
  repeat'(first|refine An Ac J J J J J ?_|refine Ae Ac J J J ?_|refine Ag ?_|refine Ah ?_|refine Ai Ac J J ?_|(refine Af J (ht:=fun h=>?_) (hf:=fun h=>?_)<;>try exact prn)|refine Ao ?_|refine Ar ?_|refine Ak Ac J J J J J J J (cd) J J ?_|refine A7 Ac [] [(86,86)] J J J J J (Ct.args cp ⟨Sub.refl _,Bp,Sub.refl _,trivial⟩) J J J J J ?_|refine Ak Ac J J J J J J J (csd) J J ?_)
  refine Au J (Sub.of_eq ?_)
  simp[R2,BA,BV,AW,SU]
  try exact List.take_of_length_le Z
end Go.Proofs.YtpdmaenhenfofaaGreatDoor
namespace Go.Proofs.YtpdmaenhenfofaaGreatDoor
open Go.Am
attribute [local irreducible] Decidable.decide
set_option maxRecDepth 100000
set_option maxHeartbeats 1000000
theorem Aan (e i:Int):Ct Tryz.prog 263 [.t (.agg (BK e i))] [] (.t (.int .i64 1)) []:=by
 refine ct0 Ac Tryz.func263 J false J J ?_
 repeat'(first|refine Ae Ac J J J ?_|refine Ag ?_|refine Ah ?_|refine Ai Ac J J ?_|refine Ar ?_)
 exact Au J (Sub.refl _)
theorem Aao (e i:Int):Ct Tryz.prog 267 [.t (.agg (BK e i))] [] (.t (.int .i64 0)) []:=by
 refine ct0 Ac Tryz.func267 J false J J ?_
 repeat'(first|refine Ae Ac J J J ?_|refine Ag ?_|refine Ah ?_|refine Ai Ac J J ?_|refine Ar ?_)
 exact Au J (Sub.refl _)
theorem V4 (es:List (List T)) (i:Nat) (hi:i<es.length) (hlim:es.length≤1000000):Ct Tryz.prog 56 [.row 1 3 0 es.length,.t (.int .i64 i)] [(1,.grow 3 es)] (.row 1 3 0 (es.length-1)) [(1,.grow 3 (es.eraseIdx i))]:=by
 have cd:=R9 [(1,.grow 3 es)] 1 es i J hi hlim
 have hw:IntKind.i64.wrap ((i:Int)+1)=(i:Int)+1:=by rw[A0 O O]
 rw[←hw]at cd
 refine ct1 Ac Tryz.func56 J J ?_
 repeat'(first|refine Ae Ac J J J ?_|refine Ag ?_|refine Ah ?_|refine Ai Ac J J ?_|refine A7 Ac [(1,1)] [(1,1)] J J J J J cd J J J J J ?_)
 refine Ar ?_
 exact BR [] J J J (Sub.refl _)
def ZT (s f:Int) (rs:List Row) (os:List (List T)) (ps:List Prod):St:=[(3,.grow 5 (rs.map AC)),(5,.grow 3 os),(1,.cells [.t (.int .i64 s),.t (.int .i64 f),.row 3 5 0 (rs.map AC).length,.row 5 3 0 os.length,.t (.slice .any 4 (ps.map Av))])]
theorem R0 (s f:Int) (rs:List Row) (os:List (List T)) (ps:List Prod) (b:Batch) (hb:A1 b=true) (h1:0≤f) (h2:f≤1000000000) (h3:rs.length≤2000000):
  Ct Tryz.prog 55 [.ref 1 0,.agg (Aj (Ap b))] (ZT s f rs os ps) (.tuple []) (ZT s (f+b.recs.length) (rs++BS b f) os ps):=by
 have hm:=AU hb
 have hlm:(b.recs.map Bu).length=b.recs.length:=List.length_map ..
 have hlr:(BS b f).length=b.recs.length:=by simp[BS]
 have hlr2:((BS b f).map AC).length=b.recs.length:=by simp[BS]
 have hlr3:(rs.map AC).length=rs.length:=List.length_map ..
 have cr:=Tv b f hb O O
 refine ct1 Ac Tryz.func55 J J ?_
 repeat'(first|refine Zr (id:=1) Ac [0] 11 Y J J J J J J (by rintro ch e s ⟨hx,_⟩;rcases hx with hx|hx<;>cases hx) ?_|refine An Ac J J J J J ?_|refine Ae Ac J J J ?_|refine Ag ?_|refine Ah ?_|refine Ai Ac J J ?_|refine AN Ac J J J J J J J J J J J J J J (by simp[AW];omega) ?_|refine A9 (id:=2) (m:=7) Ac Y J J J J ?_|refine AA J J J J ?_|refine AO J J J J J (cr) J J ?_)
 refine DM [3] J J ?_ (Sub.refl _)
 have hw:IntKind.i64.wrap (f+((b.recs.map Bu).length:Int))=f+b.recs.length:=by rw[hlm,A0 O O]
 rw[hw]
 simp only[ZT,List.map_append];rfl
theorem Xl (p:Part) (hs:Bt p):Ct Tryz.prog 53 [.agg (Aj (A5 p))] [] (.agg [.t (.int .i64 p.start),.t (.int .i64 p.fin),.row 28 5 0 (p.rows.map AC).length,.row 80 3 0 (p.opens.map Aw).length,.t (.slice .any 4 (p.prods.map Av))]) [(80,.grow 3 (p.opens.map Aw)),(28,.grow 5 (p.rows.map AC))]:=by
 rw[List.length_map,List.length_map]
 refine Ct.freezeK (e:=[]) [(90,.grow 4 (p.prods.map Av))] (VW p hs) ?_
 have b1:Nat.beq 28 90=false:=rfl
 have b2:Nat.beq 80 90=false:=rfl
 have t1:(p.prods.map Av).take p.prods.length=p.prods.map Av:=List.take_of_length_le Z
 simp[Dx,Lz,Am.look,Kd,AV.has,DD,H9,BA,Fh,b1,b2,t1]
end Go.Proofs.YtpdmaenhenfofaaGreatDoor
namespace Go.Proofs.YtpdmaenhenfofaaGreatDoor
open Go.Am
attribute [local irreducible] Decidable.decide
set_option maxRecDepth 100000
set_option maxHeartbeats 1000000
def BN:List Batch→Int→List Row
 |[],_=>[]
 |b::r,f=>BS b f++BN r (f+b.recs.length)
def CN:List Batch→Nat
 |[]=>0
 |b::r=>b.recs.length+CN r
theorem Gd: ∀(l:List Batch) (b:Batch) (f:Int),BN (l++[b]) f=BN l f++BS b (f+CN l)
 |[],b,f=>by simp[BN,CN]
 |a::r,b,f=>by simp[BN,Gd r b,CN,Int.add_assoc]
theorem Ic: ∀(l:List Batch) (b:Batch),CN (l++[b])=CN l+b.recs.length
 |[],b=>by simp[CN]
 |a::r,b=>by simp[CN,Ic r b];omega
theorem GU: ∀(l:List Batch) (f:Int),(BN l f).length=CN l
 |[],f=>rfl
 |a::r,f=>by simp[BN,CN,GU r,BS]
theorem Ez: ∀{l:List Batch},(∀b∈l,A1 b=true)→CN l≤4*l.length
 |[],_=>Nat.le_refl _
 |a::r,h=>by
  have ih:=Ez (l:=r) fun b hb=>h b (by simp[hb])
  have:=AU (h a Z)
  simp only[CN,List.length_cons];omega
def PU (e i:Int) (o:Opn) (yes:Bool):List Wr:=if e=0 then CX (DH e i) [Kf o yes]else R2 i o yes
def MB (p:Part) (o:Opn) (yes:Bool):List Row×Int:=if yes=true then(p.rows++BN o.batches p.fin,p.fin+CN o.batches)else(p.rows,p.fin)
def Eb (e:Int) (p:Part) (k:Nat) (o:Opn) (yes:Bool):Part:=⟨p.start,(MB p o yes).2+(if e=0 then 1 else 0),(MB p o yes).1,p.opens.eraseIdx k,Cr p.prods o.pid⟩
def Wv (p:Part) (w:List Wr):AV:=.tuple [.agg (Aj (A5 p)),.t (.slice .any 4 (w.map BV)),.t (.int .i64 0)]
theorem Wa (e q:Int) (p:Part) (h:DQ e q p=false) (hs:Bt p):Ct Tryz.prog 36 [.t (.int .i8 e),.t (.int .i64 q),.agg (Aj (A5 p))] [] (.tuple [.t (wrT e q),.t .nilIface]) []:=by
 have cof:=Xn e q p hs
 obtain⟨⟨h1,h2⟩,_⟩:=F5 h
 rwa[h1,h2]at cof
theorem H2 {α β:Type} {f:α→β}: ∀(l:List α) (k:Nat),(l.map f).eraseIdx k=(l.eraseIdx k).map f
 |[],k=>by simp
 |a::r,0=>rfl
 |a::r,k+1=>by simp[H2 r k]
theorem N8 (s f:Int) (R E P:List (List T)) (k n m:Nat) (hk:k<E.length) (hn:n=R.length) (hm:m=E.length-1):BA 66 5 R (BA 68 3 (E.eraseIdx k) (.agg [.t (.int .i64 s),.t (.int .i64 f),.row 66 5 0 n,.row 68 3 0 m,.t (.slice .any 4 P)]))=.agg [.t (.int .i64 s),.t (.int .i64 f),.t (.slice .any 5 R),.t (.slice .any 3 (E.eraseIdx k)),.t (.slice .any 4 P)]:=by
 subst hn hm
 have h:(E.eraseIdx k).take (E.length-1)=E.eraseIdx k:=List.take_of_length_le (by simp[List.length_eraseIdx,hk])
 have h4:E.length≤(E.eraseIdx k).length+1:=by simp[List.length_eraseIdx,hk];omega
 have b1:Nat.beq 68 66=false:=rfl
 have b2:Nat.beq 66 68=false:=rfl
 simp[BA,DD,b1,b2,h,h4]
theorem Aee (e q:Int) (p:Part) (pid:Int) (yes:Bool) (hs:Bt p) (hgood:DQ e q p=false) (k:Nat) (o:Opn) (hk:p.opens[k]?=some o) (hidx:Em (fun o=>decide (o.pid=pid)) p.opens=(k:Int)) (hany:p.opens.any (fun o=>decide (o.pid=pid))=true) (hpid:o.pid=pid):
  Ct Tryz.prog 31 [.t (.int .i8 e),.t (.int .i64 q),.agg (Aj (A5 p)),.t (.int .i64 pid),.t (.bool yes)] [] (Wv (Eb e p k o yes) (PU e q o yes)) []:=by
 obtain⟨_,he,hq,hpk⟩:=F5 hgood
 have hP:=Aoo.1 hpk
 have hs':=hs
 obtain⟨s1,s2,s3,s4⟩:=hs'
 have hcp:=(hP.ook o (List.mem_of_getElem? hk)).1
 have hso:=s3 o (List.mem_of_getElem? hk)
 obtain⟨p1,p2⟩:=EE hcp
 have hbl:=Cc hcp
 have hbm: ∀b∈o.batches,A1 b=true:=fun b hb=>(C8 hcp b hb).1
 have b0:=hP.b0
 have b1:=hP.b1
 have b2:=hP.b2
 have hlt:=(List.getElem?_eq_some_iff.1 hk).1
 have cof:=Wa e q p hgood hs
 have cown:=Xl p hs
 have cf:=HG p.opens pid s2
 rw[hidx,hany]at cf
 have cw:=V4 (p.opens.map Aw) k (by simpa using hlt) (by simpa using s2)
 have cc:=Ab5 p.prods pid s4
 have hk2:(p.opens.map Aw)[k]?=some (Aw o):=A2 hk
 have hk3:(p.opens.map Aw)[0+k]?=some (Aw o):=by rw[Nat.zero_add];exact hk2
 have hw:(e=0∧wrT e q=.iface 152 (.agg (BK e q)))∨(e=1∧wrT e q=.iface 153 (.agg (BK e q))):=by
  rcases he with rfl|rfl
  ·exact .inl ⟨J,J⟩
  ·exact .inr ⟨J,J⟩
 rcases hw with⟨he1,hw⟩|⟨he1,hw⟩
 ·rw[hw]at cof
  have cen:=Aeg e q he hq o yes p1 p2
  have cm:=Aan e q
  have hW:PU e q o yes=CX (DH e q) [Kf o yes]:=by simp[PU,he1]
  rw[hW]
  generalize CX (DH e q) [Kf o yes]=W at cen
  cases yes with
  |false=>
   refine ct0 Ac Tryz.func31 J false J J ?_
   repeat'(first|refine An Ac J J J J J ?_|refine Ae Ac J J J ?_|refine Ag ?_|refine Ah ?_|refine Ai Ac J J ?_|(refine Af J (ht:=fun h=>?_) (hf:=fun h=>?_)<;>try exact prn)|refine Ao ?_|refine Ar ?_|refine A9 (id:=18) (m:=4) Ac Y J J J J ?_|refine AA J J J J ?_|refine Ak Ac J J J J J J J (cof) J J ?_|refine A7 Ac [] [(28,66),(80,68)] J J J J J cown J J J J J ?_|refine EA Ac J J J (H4 J J) cf J J ?_|refine EL Ac J J J J J J J J (by simpa using hlt) J ?_|refine KM Ac (e:=Aw o) J J J J J hk3 J J J ?_|refine Ak Ac J J J J J J J (cen) J J ?_|refine AO J J J J J (cm) J J ?_|refine A7 Ac [(68,1)] [(1,68)] J J J J J cw J J J J J ?_|refine Ak Ac J J J J J J J (cc) J J ?_)
   refine Au J (Sub.of_eq (Eq.trans (b:=.tuple [BA 66 5 (p.rows.map AC) (BA 68 3 ((p.opens.map Aw).eraseIdx k) (.agg [.t (.int .i64 p.start),.t (.int .i64 (IntKind.i64.wrap (p.fin+1))),.row 66 5 0 (p.rows.map AC).length,.row 68 3 0 ((p.opens.map Aw).length-1),.t (.slice .any 4 ((Cr p.prods pid).map Av))])),.t (.slice .any 4 (W.map BV)),.t (.int .i64 0)]) J ?_))
   rw[N8 _ _ _ _ _ _ _ _ (by simpa using hlt) J J,A0 O O]
   simp[Wv,Eb,MB,he1,hpid,A5,Aj,H2]
  |true=>
   refine ct0 Ac Tryz.func31 J false J J ?_
   repeat'(first|refine An Ac J J J J J ?_|refine Ae Ac J J J ?_|refine Ag ?_|refine Ah ?_|refine Ai Ac J J ?_|(refine Af J (ht:=fun h=>?_) (hf:=fun h=>?_)<;>try exact prn)|refine Al ?_|refine Ao ?_|refine Ak Ac J J J J J J J (cof) J J ?_|refine A7 Ac [] [(28,66),(80,68)] J J J J J cown J J J J J ?_|refine EA Ac J J J (H4 J J) cf J J ?_|refine EL Ac J J J J J J J J (by simpa using hlt) J ?_|refine KM Ac (e:=Aw o) J J J J J hk3 J J J ?_|refine Ak Ac J J J J J J J (cen) J J ?_)
   refine Tr.weak (E:=[(3,.t (.int .i64 pid)),(10,.ref 20 0),(11,.t (.slice .any 4 (W.map BV))),(13,.t (.iface 152 (.agg (BK e q)))),(15,.t (.int .i64 k)),(63,.t (.slice .any 5 (o.batches.map Ap))),(64,.t (.int .i64 o.batches.length)),(65,.t (.int .i64 (0:Nat)))]) (S:=[(68,.grow 3 (p.opens.map Aw)),(66,.grow 5 (p.rows.map AC)),(20,.cells [.t (.int .i64 p.start),.t (.int .i64 p.fin),.row 66 5 0 (p.rows.map AC).length,.row 68 3 0 (p.opens.map Aw).length,.t (.slice .any 4 (p.prods.map Av))])]) ?_ (AR [7,17] (Ad J J (Ad J J (Ad J J (Ad J J (Ad J J (Ad J J (Ad J (by rw[List.length_map];rfl) (Ad J J Aq)))))))) J)
   refine Tr.swapS J ?_
   refine AM (ι:=Nat) (fun j=>j≤o.batches.length) (fun j=>[(3,.t (.int .i64 pid)),(10,.ref 20 0),(11,.t (.slice .any 4 (W.map BV))),(13,.t (.iface 152 (.agg (BK e q)))),(15,.t (.int .i64 k)),(63,.t (.slice .any 5 (o.batches.map Ap))),(64,.t (.int .i64 o.batches.length)),(65,.t (.int .i64 j))]) (fun j=>[(66,.grow 5 ((p.rows++BN (o.batches.take j) p.fin).map AC)),(68,.grow 3 (p.opens.map Aw)),(20,.cells [.t (.int .i64 p.start),.t (.int .i64 (p.fin+CN (o.batches.take j))),.row 66 5 0 ((p.rows++BN (o.batches.take j) p.fin).map AC).length,.row 68 3 0 (p.opens.map Aw).length,.t (.slice .any 4 (p.prods.map Av))])]) (fun j=>o.batches.length-j) 0 Z ?_ ?_
   ·refine AR [] (Ad J J (Ad J J (Ad J J (Ad J J (Ad J J (Ad J J (Ad J J (Ad J J Aq)))))))) ?_
    simp only[List.take_zero,BN,CN,List.append_nil,Int.natCast_zero,Int.add_zero]
    rfl
   rintro j hj
   by_cases hlt2:j<o.batches.length
   ·have hr:o.batches[j]?=some o.batches[j]:=List.getElem?_eq_getElem hlt2
    have hmb:=hbm o.batches[j] (List.getElem_mem hlt2)
    generalize o.batches[j]=bb at hr hmb
    have hts:=AL hr
    have hrn:=Ez (l:=o.batches.take j) fun b hb=>hbm b (List.mem_of_mem_take hb)
    have htl:(o.batches.take j).length≤8:=by rw[List.length_take];omega
    have her:=R0 p.start (p.fin+CN (o.batches.take j)) (p.rows++BN (o.batches.take j) p.fin) (p.opens.map Aw) p.prods bb hmb O O (by rw[List.length_append,GU];omega)
    repeat'(first|refine An Ac J J J J J ?_|refine Ae Ac J J J ?_|refine Ag ?_|refine Ah ?_|refine Ai Ac J J ?_|(refine Af J (ht:=fun h=>?_) (hf:=fun h=>?_)<;>try exact prn)|refine Al ?_|refine Ao ?_|refine AD Ac J J J J J J J (A2 Aa) J ?_|refine A7 Ac [(66,3),(68,5),(20,1)] [(3,66),(5,68),(1,20)] J J J J J her J J J J J ?_)
    refine AF (j+1) hlt2 O [19] (Ad J J (Ad J J (Ad J J (Ad J J (Ad J J (Ad J J (Ad J J (Ad J (by rw[A0 O O];rfl) Aq)))))))) ?_
    rw[hts,Gd,Ic,←List.append_assoc,Int.natCast_add,←Int.add_assoc]
    rfl
   ·have hjn:j=o.batches.length:=by omega
    subst hjn
    rw[List.take_length]
    have hrn:=Ez hbm
    repeat'(first|refine An Ac J J J J J ?_|refine Ae Ac J J J ?_|refine Ag ?_|refine Ah ?_|refine Ai Ac J J ?_|(refine Af J (ht:=fun h=>?_) (hf:=fun h=>?_)<;>try exact prn)|refine AB ?_|refine Ar ?_|refine A9 (id:=18) (m:=4) Ac Y J J J J ?_|refine AA J J J J ?_|refine AO J J J J J (cm) J J ?_|refine A7 Ac [(68,1)] [(1,68)] J J J J J cw J J J J J ?_|refine Ak Ac J J J J J J J (cc) J J ?_)
    refine Au J (Sub.of_eq (Eq.trans (b:=.tuple [BA 66 5 ((p.rows++BN o.batches p.fin).map AC) (BA 68 3 ((p.opens.map Aw).eraseIdx k) (.agg [.t (.int .i64 p.start),.t (.int .i64 (IntKind.i64.wrap ((p.fin+CN o.batches)+1))),.row 66 5 0 ((p.rows++BN o.batches p.fin).map AC).length,.row 68 3 0 ((p.opens.map Aw).length-1),.t (.slice .any 4 ((Cr p.prods pid).map Av))])),.t (.slice .any 4 (W.map BV)),.t (.int .i64 0)]) J ?_))
    rw[N8 _ _ _ _ _ _ _ _ (by simpa using hlt) J J,A0 O O]
    simp[Wv,Eb,MB,he1,hpid,A5,Aj,H2]
 ·subst he1
  rw[hw]at cof
  have cen:=Aeh q hq o yes hcp hso
  have cm:=Aao 1 q
  have hW:PU 1 q o yes=R2 q o yes:=by simp[PU]
  rw[hW]
  generalize R2 q o yes=W at cen
  cases yes with
  |false=>
   refine ct0 Ac Tryz.func31 J false J J ?_
   repeat'(first|refine An Ac J J J J J ?_|refine Ae Ac J J J ?_|refine Ag ?_|refine Ah ?_|refine Ai Ac J J ?_|(refine Af J (ht:=fun h=>?_) (hf:=fun h=>?_)<;>try exact prn)|refine Ao ?_|refine Ar ?_|refine A9 (id:=18) (m:=4) Ac Y J J J J ?_|refine AA J J J J ?_|refine Ak Ac J J J J J J J (cof) J J ?_|refine A7 Ac [] [(28,66),(80,68)] J J J J J cown J J J J J ?_|refine EA Ac J J J (H4 J J) cf J J ?_|refine EL Ac J J J J J J J J (by simpa using hlt) J ?_|refine KM Ac (e:=Aw o) J J J J J hk3 J J J ?_|refine Ak Ac J J J J J J J (cen) J J ?_|refine AO J J J J J (cm) J J ?_|refine A7 Ac [(68,1)] [(1,68)] J J J J J cw J J J J J ?_|refine Ak Ac J J J J J J J (cc) J J ?_)
   refine Au J (Sub.of_eq (Eq.trans (b:=.tuple [BA 66 5 (p.rows.map AC) (BA 68 3 ((p.opens.map Aw).eraseIdx k) (.agg [.t (.int .i64 p.start),.t (.int .i64 (IntKind.i64.wrap (p.fin+0))),.row 66 5 0 (p.rows.map AC).length,.row 68 3 0 ((p.opens.map Aw).length-1),.t (.slice .any 4 ((Cr p.prods pid).map Av))])),.t (.slice .any 4 (W.map BV)),.t (.int .i64 0)]) J ?_))
   rw[N8 _ _ _ _ _ _ _ _ (by simpa using hlt) J J,A0 O O]
   simp[Wv,Eb,MB,hpid,A5,Aj,H2]
  |true=>
   refine ct0 Ac Tryz.func31 J false J J ?_
   repeat'(first|refine An Ac J J J J J ?_|refine Ae Ac J J J ?_|refine Ag ?_|refine Ah ?_|refine Ai Ac J J ?_|(refine Af J (ht:=fun h=>?_) (hf:=fun h=>?_)<;>try exact prn)|refine Al ?_|refine Ao ?_|refine Ak Ac J J J J J J J (cof) J J ?_|refine A7 Ac [] [(28,66),(80,68)] J J J J J cown J J J J J ?_|refine EA Ac J J J (H4 J J) cf J J ?_|refine EL Ac J J J J J J J J (by simpa using hlt) J ?_|refine KM Ac (e:=Aw o) J J J J J hk3 J J J ?_|refine Ak Ac J J J J J J J (cen) J J ?_)
   refine Tr.weak (E:=[(3,.t (.int .i64 pid)),(10,.ref 20 0),(11,.t (.slice .any 4 (W.map BV))),(13,.t (.iface 153 (.agg (BK 1 q)))),(15,.t (.int .i64 k)),(63,.t (.slice .any 5 (o.batches.map Ap))),(64,.t (.int .i64 o.batches.length)),(65,.t (.int .i64 (0:Nat)))]) (S:=[(68,.grow 3 (p.opens.map Aw)),(66,.grow 5 (p.rows.map AC)),(20,.cells [.t (.int .i64 p.start),.t (.int .i64 p.fin),.row 66 5 0 (p.rows.map AC).length,.row 68 3 0 (p.opens.map Aw).length,.t (.slice .any 4 (p.prods.map Av))])]) ?_ (AR [7,17] (Ad J J (Ad J J (Ad J J (Ad J J (Ad J J (Ad J J (Ad J (by rw[List.length_map];rfl) (Ad J J Aq)))))))) J)
   refine Tr.swapS J ?_
   refine AM (ι:=Nat) (fun j=>j≤o.batches.length) (fun j=>[(3,.t (.int .i64 pid)),(10,.ref 20 0),(11,.t (.slice .any 4 (W.map BV))),(13,.t (.iface 153 (.agg (BK 1 q)))),(15,.t (.int .i64 k)),(63,.t (.slice .any 5 (o.batches.map Ap))),(64,.t (.int .i64 o.batches.length)),(65,.t (.int .i64 j))]) (fun j=>[(66,.grow 5 ((p.rows++BN (o.batches.take j) p.fin).map AC)),(68,.grow 3 (p.opens.map Aw)),(20,.cells [.t (.int .i64 p.start),.t (.int .i64 (p.fin+CN (o.batches.take j))),.row 66 5 0 ((p.rows++BN (o.batches.take j) p.fin).map AC).length,.row 68 3 0 (p.opens.map Aw).length,.t (.slice .any 4 (p.prods.map Av))])]) (fun j=>o.batches.length-j) 0 Z ?_ ?_
   ·refine AR [] (Ad J J (Ad J J (Ad J J (Ad J J (Ad J J (Ad J J (Ad J J (Ad J J Aq)))))))) ?_
    simp only[List.take_zero,BN,CN,List.append_nil,Int.natCast_zero,Int.add_zero]
    rfl
   rintro j hj
   by_cases hlt2:j<o.batches.length
   ·have hr:o.batches[j]?=some o.batches[j]:=List.getElem?_eq_getElem hlt2
    have hmb:=hbm o.batches[j] (List.getElem_mem hlt2)
    generalize o.batches[j]=bb at hr hmb
    have hts:=AL hr
    have hrn:=Ez (l:=o.batches.take j) fun b hb=>hbm b (List.mem_of_mem_take hb)
    have htl:(o.batches.take j).length≤8:=by rw[List.length_take];omega
    have her:=R0 p.start (p.fin+CN (o.batches.take j)) (p.rows++BN (o.batches.take j) p.fin) (p.opens.map Aw) p.prods bb hmb O O (by rw[List.length_append,GU];omega)
    repeat'(first|refine An Ac J J J J J ?_|refine Ae Ac J J J ?_|refine Ag ?_|refine Ah ?_|refine Ai Ac J J ?_|(refine Af J (ht:=fun h=>?_) (hf:=fun h=>?_)<;>try exact prn)|refine Al ?_|refine Ao ?_|refine AD Ac J J J J J J J (A2 Aa) J ?_|refine A7 Ac [(66,3),(68,5),(20,1)] [(3,66),(5,68),(1,20)] J J J J J her J J J J J ?_)
    refine AF (j+1) hlt2 O [19] (Ad J J (Ad J J (Ad J J (Ad J J (Ad J J (Ad J J (Ad J J (Ad J (by rw[A0 O O];rfl) Aq)))))))) ?_
    rw[hts,Gd,Ic,←List.append_assoc,Int.natCast_add,←Int.add_assoc]
    rfl
   ·have hjn:j=o.batches.length:=by omega
    subst hjn
    rw[List.take_length]
    have hrn:=Ez hbm
    repeat'(first|refine An Ac J J J J J ?_|refine Ae Ac J J J ?_|refine Ag ?_|refine Ah ?_|refine Ai Ac J J ?_|(refine Af J (ht:=fun h=>?_) (hf:=fun h=>?_)<;>try exact prn)|refine AB ?_|refine Ar ?_|refine A9 (id:=18) (m:=4) Ac Y J J J J ?_|refine AA J J J J ?_|refine AO J J J J J (cm) J J ?_|refine A7 Ac [(68,1)] [(1,68)] J J J J J cw J J J J J ?_|refine Ak Ac J J J J J J J (cc) J J ?_)
    refine Au J (Sub.of_eq (Eq.trans (b:=.tuple [BA 66 5 ((p.rows++BN o.batches p.fin).map AC) (BA 68 3 ((p.opens.map Aw).eraseIdx k) (.agg [.t (.int .i64 p.start),.t (.int .i64 (IntKind.i64.wrap ((p.fin+CN o.batches)+0))),.row 66 5 0 ((p.rows++BN o.batches p.fin).map AC).length,.row 68 3 0 ((p.opens.map Aw).length-1),.t (.slice .any 4 ((Cr p.prods pid).map Av))])),.t (.slice .any 4 (W.map BV)),.t (.int .i64 0)]) J ?_))
    rw[N8 _ _ _ _ _ _ _ _ (by simpa using hlt) J J,A0 O O]
    simp[Wv,Eb,MB,hpid,A5,Aj,H2]
end Go.Proofs.YtpdmaenhenfofaaGreatDoor
