/- Contracts and laws, joined: Qa, Qb, Qc, Qd. No condition beside those that each theorem names. -/
import Derived.Test.YtpdmaenhenfofaaGreatDoorZM9
import Derived.Test.YtpdmaenhenfofaaGreatDoorZJ3
import Derived.Test.YtpdmaenhenfofaaGreatDoorZJ5
import Derived.Test.YtpdmaenhenfofaaGreatDoorZEd
import Derived.Test.YtpdmaenhenfofaaGreatDoorZEf
import Derived.Test.YtpdmaenhenfofaaGreatDoorZJ6
set_option linter.unusedVariables false
set_option linter.unusedSimpArgs false
namespace Go.Proofs.YtpdmaenhenfofaaGreatDoor
open Go.Am
attribute [local irreducible] Decidable.decide
set_option maxRecDepth 100000
set_option maxHeartbeats 1000000
def Cv (t:Nat) (what:Bs) (n:Int):T:=.iface t (.ptr [.str what,.int .i64 n])
def ER {α:Type} (f:α→Int) (l:List α):Bool:=decide ((l.map f).Pairwise (· < ·))
theorem J9 {α:Type} {f:α→Int} {l:List α} (h:ER f l=true) {i j:Nat} {x y:α} (hx:l[i]?=some x) (hy:l[j]?=some y) (hij:i<j):f x<f y:=by
 have:=of_decide_eq_true h
 rw[List.pairwise_map]at this
 obtain⟨h1,rfl⟩:=List.getElem?_eq_some_iff.1 hx
 obtain⟨h2,rfl⟩:=List.getElem?_eq_some_iff.1 hy
 exact List.pairwise_iff_getElem.1 this i j h1 h2 hij
theorem QR {α:Type} {f:α→Int} {l:List α} {i:Nat} {x y:α} (hx:l[i]?=some x) (hy:l[i-1]?=some y) (hi:1≤i) (h:f x≤f y):ER f l=false:=by
 cases hr:ER f l with
 |false=>rfl
 |true=>have:=J9 hr hy hx O;omega
theorem NX {α:Type} {f:α→Int} {l:List α} {i:Nat} {x y:α} (hx:l[i]?=some x) (hy:l[i-1]?=some y) (hi:1≤i) (h:f y<f x) (hr:ER f (l.take i)=true):ER f (l.take (i+1))=true:=by
 rw[AL hx]
 refine decide_eq_true ?_
 rw[List.map_append,List.pairwise_append]
 refine⟨of_decide_eq_true hr,by simp,fun a ha b hb=>?_⟩
 simp at hb;subst hb
 obtain⟨z,hz,rfl⟩:=List.mem_map.1 ha
 obtain⟨j,hj,rfl⟩:=List.getElem_of_mem hz
 have hlen:(l.take i).length=i:=by simp;have:=(List.getElem?_eq_some_iff.1 hx).1;omega
 rw[hlen]at hj
 have hjj:(l.take i)[j]?=some (l.take i)[j]:=List.getElem?_eq_getElem _
 by_cases e:j=i-1
 ·have:(l.take i)[j]?=some y:=by rw[List.getElem?_take,if_pos hj,e];exact hy
  rw[hjj]at this;cases this;exact h
 ·have hyy:(l.take i)[i-1]?=some y:=by rw[List.getElem?_take,if_pos O];exact hy
  have:=J9 hr hjj hyy O
  omega
theorem QQ {α:Type} (f:α→Int) (l:List α) (h:l.length≤1):ER f l=true:=by
 match l,h with
 |[],_=>simp[ER]
 |[a],_=>simp[ER]
theorem Sb (fnum:Nat) (f:Row→Int) (l:List Row) (hl:l.length≤1000000000) (hf: ∀r,Ct Tryz.prog fnum [.agg (Aj (AC r))] [] (.t (.int .i64 (f r))) []):
  Ct Tryz.prog 193 [.t (.slice .any 5 (l.map AC)),.t (.func (.func fnum) [] [])] [] (.t (.bool (ER f l))) []:=by
 refine ct0 Ac Tryz.func193 J false J J ?_
 have hlm:(l.map AC).length=l.length:=List.length_map ..
 repeat'(first|refine Ae Ac J J J ?_|refine Ag ?_|refine Ah ?_|refine Ai Ac J J ?_|refine Al ?_)
 refine AM (ι:=Nat) (fun i=>1≤i∧i≤l.length+1∧ER f (l.take i)=true) (fun i=>[(0,.t (.slice .any 5 (l.map AC))),(1,.t (.func (.func fnum) [] [])),(5,.t (.int .i64 i))]) (fun _=>[]) (fun i=>l.length+1-i) 1 ⟨by simp,by simp,QQ _ _ (by simp;omega)⟩ ?_ ?_
 ·exact AR [] (Ad J J (Ad J J (Ad J J Aq))) J
 rintro i ⟨h1,hi,hr0⟩
 by_cases hlt:i<l.length
 ·have hr:l[i]?=some l[i]:=List.getElem?_eq_getElem hlt
  have hs:l[i-1]?=some (l[i-1]' O):=List.getElem?_eq_getElem _
  generalize l[i]=r at hr
  generalize l[i-1]' O=s at hs
  have hw:IntKind.i64.wrap ((i:Int)-1)=((i-1:Nat):Int):=by rw[A0 O O];omega
  repeat'(first|refine Ae Ac J J J ?_|refine Ag ?_|refine Ah ?_|refine Ai Ac J J ?_|(refine Af J (ht:=fun h=>?_) (hf:=fun h=>?_)<;>try exact prn)|refine Al ?_|refine Ao ?_|refine Ar ?_|refine A9 (id:=4) (m:=12) Ac Y J J J J ?_|refine AA J J J J ?_|refine CY ?_|refine Bz J J J J J J J (A2 Aa) J ?_|refine Hs J J J J J J J Aa (A2 Aa) J ?_|refine AO J J J J J (hf r) J J ?_|refine Ak Ac J J J J J J J (hf s) J J ?_)
  ·refine Au J (BJ ?_)
   rw[QR hr hs h1 (by simpa using h)]
  ·refine AF (i+1) ⟨by omega,by omega,NX hr hs h1 O hr0⟩ O [] (Ad J J (Ad J J (Ad J ?_ Aq))) J
   rw[A0 O O];rfl
 ·repeat'(first|refine Ae Ac J J J ?_|refine Ag ?_|refine Ah ?_|refine Ai Ac J J ?_|(refine Af J (ht:=fun h=>?_) (hf:=fun h=>?_)<;>try exact prn)|refine AB ?_|refine Ar ?_)
  refine Au J (BJ ?_)
  rw[List.take_of_length_le O]at hr0
  exact hr0.symm
theorem Sc (fnum:Nat) (f:Opn→Int) (l:List Opn) (hl:l.length≤1000000000) (hf: ∀r,Ct Tryz.prog fnum [.agg (Aj (Aw r))] [] (.t (.int .i64 (f r))) []):
  Ct Tryz.prog 195 [.t (.slice .any 3 (l.map Aw)),.t (.func (.func fnum) [] [])] [] (.t (.bool (ER f l))) []:=by
 refine ct0 Ac Tryz.func195 J false J J ?_
 have hlm:(l.map Aw).length=l.length:=List.length_map ..
 repeat'(first|refine Ae Ac J J J ?_|refine Ag ?_|refine Ah ?_|refine Ai Ac J J ?_|refine Al ?_)
 refine AM (ι:=Nat) (fun i=>1≤i∧i≤l.length+1∧ER f (l.take i)=true) (fun i=>[(0,.t (.slice .any 3 (l.map Aw))),(1,.t (.func (.func fnum) [] [])),(5,.t (.int .i64 i))]) (fun _=>[]) (fun i=>l.length+1-i) 1 ⟨by simp,by simp,QQ _ _ (by simp;omega)⟩ ?_ ?_
 ·exact AR [] (Ad J J (Ad J J (Ad J J Aq))) J
 rintro i ⟨h1,hi,hr0⟩
 by_cases hlt:i<l.length
 ·have hr:l[i]?=some l[i]:=List.getElem?_eq_getElem hlt
  have hs:l[i-1]?=some (l[i-1]' O):=List.getElem?_eq_getElem _
  generalize l[i]=r at hr
  generalize l[i-1]' O=s at hs
  have hw:IntKind.i64.wrap ((i:Int)-1)=((i-1:Nat):Int):=by rw[A0 O O];omega
  repeat'(first|refine Ae Ac J J J ?_|refine Ag ?_|refine Ah ?_|refine Ai Ac J J ?_|(refine Af J (ht:=fun h=>?_) (hf:=fun h=>?_)<;>try exact prn)|refine Al ?_|refine Ao ?_|refine Ar ?_|refine A9 (id:=4) (m:=12) Ac Y J J J J ?_|refine AA J J J J ?_|refine CY ?_|refine Bz J J J J J J J (A2 Aa) J ?_|refine Hs J J J J J J J Aa (A2 Aa) J ?_|refine AO J J J J J (hf r) J J ?_|refine Ak Ac J J J J J J J (hf s) J J ?_)
  ·refine Au J (BJ ?_)
   rw[QR hr hs h1 (by simpa using h)]
  ·refine AF (i+1) ⟨by omega,by omega,NX hr hs h1 O hr0⟩ O [] (Ad J J (Ad J J (Ad J ?_ Aq))) J
   rw[A0 O O];rfl
 ·repeat'(first|refine Ae Ac J J J ?_|refine Ag ?_|refine Ah ?_|refine Ai Ac J J ?_|(refine Af J (ht:=fun h=>?_) (hf:=fun h=>?_)<;>try exact prn)|refine AB ?_|refine Ar ?_)
  refine Au J (BJ ?_)
  rw[List.take_of_length_le O]at hr0
  exact hr0.symm
end Go.Proofs.YtpdmaenhenfofaaGreatDoor
namespace Go.Proofs.YtpdmaenhenfofaaGreatDoor
open Go.Am
attribute [local irreducible] Decidable.decide
set_option maxRecDepth 100000
set_option maxHeartbeats 1000000
def Xh (p:Part) (r:Row):Bool:=decide (p.start≤r.offset∧r.offset<p.fin)
def Fm (p:Part):Bool:=decide (0≤p.start∧p.start≤p.fin∧p.fin≤1048576)&&(ER Row.offset p.rows&&(p.rows.all (Xh p)&&(ER Opn.pid p.opens&& !p.opens.any (fun o=>o.batches.isEmpty))))
def Alx:Bs:=[97,32,112,97,114,116,32,116,104,97,116,32,99,97,110,110,111,116,32,98,101,32,114,101,97,100]
def rdT (p:Part):T:=if Fm p=true then .nilIface else Cv 290 Alx 2
theorem Abr {p:Part} {a z:Row} (hr:ER Row.offset p.rows=true) (ha:p.rows[0]?=some a) (hz:p.rows[p.rows.length-1]?=some z):p.rows.all (Xh p)=decide (p.start≤a.offset∧z.offset<p.fin):=by
 rw[Bool.eq_iff_iff,List.all_eq_true]
 simp only[Xh,decide_eq_true_eq]
 constructor
 ·intro h;exact⟨(h a (List.mem_of_getElem? ha)).1,(h z (List.mem_of_getElem? hz)).2⟩
 ·intro h r hm
  obtain⟨i,hi⟩:=List.getElem?_of_mem hm
  have hlt:=(List.getElem?_eq_some_iff.1 hi).1
  constructor
  ·by_cases e:i=0
   ·subst e;rw[ha]at hi;cases hi;exact h.1
   ·have:=J9 hr ha hi O;omega
  ·by_cases e:i=p.rows.length-1
   ·subst e;rw[hz]at hi;cases hi;exact h.2
   ·have:=J9 hr hi hz O;omega
theorem ZN (r:Row):Ct Tryz.prog 194 [.agg (Aj (AC r))] [] (.t (.int .i64 r.offset)) []:=by
 refine ct0 Ac Tryz.func194 J false J J ?_
 repeat'(first|refine Ae Ac J J J ?_|refine Ag ?_|refine Ah ?_|refine Ai Ac J J ?_|refine Ar ?_)
 exact Au J (Sub.refl _)
theorem ZM (o:Opn):Ct Tryz.prog 196 [.agg (Aj (Aw o))] [] (.t (.int .i64 o.pid)) []:=by
 refine ct0 Ac Tryz.func196 J false J J ?_
 repeat'(first|refine Ae Ac J J J ?_|refine Ag ?_|refine Ah ?_|refine Ai Ac J J ?_|refine Ar ?_)
 exact Au J (Sub.refl _)
theorem ZO (o:Opn):Ct Tryz.prog 198 [.agg (Aj (Aw o))] [] (.t (.bool o.batches.isEmpty)) []:=by
 refine ct0 Ac Tryz.func198 J false J J ?_
 repeat'(first|refine Ae Ac J J J ?_|refine Ag ?_|refine Ah ?_|refine Ai Ac J J ?_|refine Ar ?_)
 refine Au J (BJ ?_)
 cases o.batches<;>simp;omega
theorem Od (p:Part) (h1:p.rows.length≤1000000000) (h2:p.opens.length≤1000000000):Ct Tryz.prog 153 [.agg (Aj (A5 p))] [] (.t (rdT p)) []:=by
 have c1:=Sb 194 Row.offset p.rows h1 ZN
 have c2:=Sc 196 Opn.pid p.opens h2 ZM
 have c3:=Pw 198 [] (fun o=>o.batches.isEmpty) p.opens h2 ZO J
 have hlm:(p.rows.map AC).length=p.rows.length:=List.length_map ..
 refine ct0 Ac Tryz.func153 J false J J ?_
 by_cases hlt:0<p.rows.length
 ·have ha:p.rows[0]?=some p.rows[0]:=List.getElem?_eq_getElem _
  have hz:p.rows[p.rows.length-1]?=some (p.rows[p.rows.length-1]' O):=List.getElem?_eq_getElem _
  have he:=fun hr=>Abr hr ha hz
  generalize p.rows[0]=a at ha he
  generalize p.rows[p.rows.length-1]' O=z at hz he
  have hw:IntKind.i64.wrap (((p.rows.map AC).length:Int)-1)=((p.rows.length-1:Nat):Int):=by rw[hlm,A0 O O];omega
  have hiff:Fm p=true↔(0≤p.start∧p.start≤p.fin∧p.fin≤1048576)∧ER Row.offset p.rows=true∧(p.start≤a.offset∧z.offset<p.fin)∧ER Opn.pid p.opens=true∧ ¬p.opens.any (fun o=>o.batches.isEmpty)=true:=by
   simp only[Fm,Bool.and_eq_true,decide_eq_true_eq,Bool.not_eq_true',Bool.not_eq_true]
   constructor
   ·rintro⟨q1,q2,q3,q4,q5⟩;rw[he q2,decide_eq_true_eq]at q3;exact⟨q1,q2,q3,q4,q5⟩
   ·rintro⟨q1,q2,q3,q4,q5⟩;exact⟨q1,q2,by rw[he q2,decide_eq_true_eq];exact q3,q4,q5⟩
  repeat'(first|refine Ae Ac J J J ?_|refine Ag ?_|refine Ah ?_|refine Ai Ac J J ?_|(refine AZ J J J J J (ht:=fun h=>?_) (hf:=fun h=>?_)<;>try exact prn)|(refine AP J J J J J (ht:=fun h=>?_) (hf:=fun h=>?_)<;>try exact prn)|(refine Af J (ht:=fun h=>?_) (hf:=fun h=>?_)<;>try exact prn)|refine Al ?_|refine Ao ?_|refine AB ?_|refine Ar ?_|refine A9 (id:=4) (m:=21) Ac Y J J J J ?_|refine AA J J J J ?_|(refine EQ J J J J J (ht:=fun h=>?_) (hf:=fun h=>?_)<;>try exact prn)|(refine Fi J J J J J (ht:=fun h=>?_) (hf:=fun h=>?_)<;>try exact prn)|refine Bz J J J J J J J (A2 Aa) J ?_|refine Hs J J J J J J J Aa (A2 Aa) J ?_|refine Ak Ac J J J J J J J (c1) J J ?_|refine Ak Ac J J J J J J J (c2) J J ?_|refine Ak Ac J J J J J J J (c3) J J ?_)
  all_goals refine Au J (Sub.of_eq ?_)
  all_goals first|(rw[rdT,if_pos (hiff.2 ⟨by omega,by first|assumption|exact Classical.byContradiction Aa,by omega,by first|assumption|exact Classical.byContradiction Aa,by first|assumption|exact Classical.byContradiction Aa⟩)])|(rw[rdT,if_neg (fun hc=>by obtain⟨q1,q2,q3,q4,q5⟩:=hiff.1 hc;first|omega|contradiction)];rfl)
 ·have hn:p.rows=[]:=List.eq_nil_of_length_eq_zero O
  have hiff:Fm p=true↔(0≤p.start∧p.start≤p.fin∧p.fin≤1048576)∧ER Row.offset p.rows=true∧ER Opn.pid p.opens=true∧ ¬p.opens.any (fun o=>o.batches.isEmpty)=true:=by
   simp only[Fm,Bool.and_eq_true,decide_eq_true_eq,Bool.not_eq_true',Bool.not_eq_true]
   have ha:p.rows.all (Xh p)=true:=by rw[hn];rfl
   rw[ha];simp
  repeat'(first|refine Ae Ac J J J ?_|refine Ag ?_|refine Ah ?_|refine Ai Ac J J ?_|(refine AZ J J J J J (ht:=fun h=>?_) (hf:=fun h=>?_)<;>try exact prn)|(refine AP J J J J J (ht:=fun h=>?_) (hf:=fun h=>?_)<;>try exact prn)|refine Gz J J J J J ?_|(refine Af J (ht:=fun h=>?_) (hf:=fun h=>?_)<;>try exact prn)|refine Al ?_|refine Ao ?_|refine AB ?_|refine Ar ?_|refine A9 (id:=4) (m:=21) Ac Y J J J J ?_|refine AA J J J J ?_|(refine EQ J J J J J (ht:=fun h=>?_) (hf:=fun h=>?_)<;>try exact prn)|refine ZB J J J J J ?_|refine Ak Ac J J J J J J J (c1) J J ?_|refine Ak Ac J J J J J J J (c2) J J ?_|refine Ak Ac J J J J J J J (c3) J J ?_)
  all_goals refine Au J (Sub.of_eq ?_)
  all_goals first|(rw[rdT,if_pos (hiff.2 ⟨by omega,by first|assumption|exact Classical.byContradiction Aa,by first|assumption|exact Classical.byContradiction Aa,by first|assumption|exact Classical.byContradiction Aa⟩)])|(rw[rdT,if_neg (fun hc=>by obtain⟨q1,q2,q4,q5⟩:=hiff.1 hc;first|omega|contradiction)];rfl)
end Go.Proofs.YtpdmaenhenfofaaGreatDoor
namespace Go.Proofs.YtpdmaenhenfofaaGreatDoor
open Go.Am
attribute [local irreducible] Decidable.decide
set_option maxRecDepth 100000
set_option maxHeartbeats 1000000
def HZ (r:Row):Bool:=decide (r.pid<1∨r.pid>8∨r.seq<0∨r.seq≥1048576∨r.key.length>16∨r.value.length>16)
theorem Zd (r:Row):Ct Tryz.prog 94 [.agg (Aj (AC r))] [] (.t (.bool (HZ r))) []:=by
 refine ct0 Ac Tryz.func94 J false J J ?_
 repeat'(first|refine Ae Ac J J J ?_|refine Ag ?_|refine Ah ?_|refine Ai Ac J J ?_|(refine AP J J J J J (ht:=fun h=>?_) (hf:=fun h=>?_)<;>try exact prn)|refine Ar ?_)
 all_goals(refine Au J (BJ ?_);simp only[HZ];first|exact bI O|exact bT O|exact bF O)
def JH (last:Int):List Prod→Bool
 |[]=>true
 |p::r=>(decide (last<p.pid)&&C2 p)&&JH p.pid r
def BO (l:List Prod):Bool:=JH 0 l
def EN (l:List Prod):Prop:=l.length≤1000000∧ ∀p∈l,p.seen.length≤1000000
theorem TV (l:List Prod) (hl:EN l):Ct Tryz.prog 95 [.t (.slice .any 4 (l.map Av))] [] (.t (.bool (BO l))) []:=by
 obtain⟨hl,hsm⟩:=hl
 have hlm:(l.map Av).length=l.length:=List.length_map ..
 refine ct0 Ac Tryz.func95 J false J J ?_
 repeat'(first|refine Ae Ac J J J ?_|refine Ag ?_|refine Ah ?_|refine Ai Ac J J ?_|refine Al ?_)
 refine AM (ι:=Nat×Int) (fun q=>q.1≤l.length∧BO l=JH q.2 (l.drop q.1)) (fun q=>[(3,.t (.int .i64 q.2)),(6,.t (.slice .any 4 (l.map Av))),(7,.t (.int .i64 ((l.map Av).length:Int))),(8,.t (.int .i64 q.1))]) (fun _=>[]) (fun q=>l.length-q.1) (0,0) ⟨by simp,J⟩ ?_ ?_
 ·exact AR [] (Ad J J (Ad J J (Ad J J (Ad J J Aq)))) J
 rintro⟨i,last⟩ ⟨hi,hm⟩
 simp only at hi hm
 by_cases hlt:i<l.length
 ·have hr:l[i]?=some l[i]:=List.getElem?_eq_getElem hlt
  have hs:=hsm l[i] (List.getElem_mem hlt)
  generalize l[i]=r at hr hs
  rw[BE hr]at hm
  simp only[JH]at hm
  repeat'(first|refine An Ac J J J J J ?_|refine Ae Ac J J J ?_|refine Ag ?_|refine Ah ?_|refine Ai Ac J J ?_|(refine AP J J J J J (ht:=fun h=>?_) (hf:=fun h=>?_)<;>try exact prn)|(refine Af J (ht:=fun h=>?_) (hf:=fun h=>?_)<;>try exact prn)|refine Al ?_|refine Ao ?_|refine Ar ?_|refine AD Ac J J J J J J J (A2 Aa) J ?_|refine Ak Ac J J J J J J J (E1 r hs) J J ?_)
  ·have hk:C2 r=false:=by simpa using h
   refine Au J (BJ ?_);rw[hm,hk];simp
  ·have hk:C2 r=true:=Classical.byContradiction h
   refine AF (i+1,r.pid) ⟨by simp;omega,?_⟩ (by simp;omega) [5] (Ad J J (Ad J J (Ad J J (Ad J ?_ Aq)))) J
   ·rw[hm,hk,decide_eq_true (show last<r.pid by simp only at*;omega)];rfl
   ·rw[A0 O O];rfl
  ·refine Au J (BJ ?_);rw[hm,decide_eq_false (show ¬last<r.pid by simp only at*;omega)];simp
 ·repeat'(first|refine Ae Ac J J J ?_|refine Ag ?_|refine Ah ?_|refine Ai Ac J J ?_|(refine Af J (ht:=fun h=>?_) (hf:=fun h=>?_)<;>try exact prn)|refine AB ?_|refine Ar ?_)
  refine Au J (BJ ?_)
  rw[hm,List.drop_of_length_le O];rfl
def Nn {α:Type} (p:α→Bool) (l:List α):Int:=match l.findIdx? p with
 |some i=>(i:Int)
 |none=>(l.length:Int)
theorem Abe {α:Type} {p:α→Bool} {l:List α} {i:Nat} {x:α} (h:l[i]?=some x) (ha:(l.take i).any p=false) (hp:p x=true):Nn p l=(i:Int)∧l.any p=true:=by
 have:=Sv h ha hp
 refine⟨?_,I7 h hp⟩
 unfold Em at this;unfold Nn
 split at this
 ·rename_i j hj;rw[hj];exact this
 ·omega
theorem OE {α:Type} {p:α→Bool} {l:List α} (h:l.any p=false):Nn p l=(l.length:Int):=by
 have:=Jg h
 unfold Em at this;unfold Nn
 split at this
 ·omega
 ·rename_i hj;rw[hj]
theorem JK {α:Type} {p:α→Bool} {l:List α} (h:l.any p=true): ∃(i:Nat) (x:α),l[i]?=some x∧Nn p l=(i:Int)∧l.find? p=some x∧p x=true:=by
 have h1: ∃i,l.findIdx? p=some i:=by
  cases hf:l.findIdx? p with
  |some i=>exact⟨i,J⟩
  |none=>rw[List.findIdx?_eq_none_iff]at hf;rw[List.any_eq_true]at h;obtain⟨x,hx,hp⟩:=h;have:=hf x hx;simp[hp]at this
 obtain⟨i,hi⟩:=h1
 have h2:=List.findIdx?_eq_some_iff_getElem.1 hi
 obtain⟨hlt,hp,hno⟩:=h2
 refine⟨i,l[i],List.getElem?_eq_getElem hlt,by simp[Nn,hi],?_,hp⟩
 rw[List.find?_eq_some_iff_getElem]
 exact⟨hp,i,hlt,J,fun j hj=>by have:=hno j hj;simpa using this⟩
theorem Ix (fnum:Nat) (cap:List T) (p:Prod→Bool) (l:List Prod) (hl:l.length≤1000000000) (hf: ∀r,Ct Tryz.prog fnum (.agg (Aj (Av r))::Aj cap) [] (.t (.bool (p r))) []) (hfr:Eo (Aj cap)=true):
  Ct Tryz.prog 106 [.t (.slice .any 4 (l.map Av)),.t (.func (.func fnum) [] cap)] [] (.tuple [.t (.int .i64 (Nn p l)),.t (.bool (l.any p))]) []:=by
 refine ct0 Ac Tryz.func106 J false J J ?_
 have hlm:(l.map Av).length=l.length:=List.length_map ..
 repeat'(first|refine Ae Ac J J J ?_|refine Ag ?_|refine Ah ?_|refine Ai Ac J J ?_|refine Al ?_)
 refine AM (ι:=Nat) (fun i=>i≤l.length∧(l.take i).any p=false) (fun i=>[(0,.t (.slice .any 4 (l.map Av))),(1,.t (.func (.func fnum) [] cap)),(8,.t (.slice .any 4 (l.map Av))),(9,.t (.int .i64 ((l.map Av).length:Int))),(10,.t (.int .i64 i))]) (fun _=>[]) (fun i=>l.length-i) 0 Z ?_ ?_
 ·exact AR [] (Ad J J (Ad J J (Ad J J (Ad J J (Ad J J Aq))))) J
 rintro i ⟨hi,hany⟩
 by_cases hlt:i<l.length
 ·have hr:l[i]?=some l[i]:=List.getElem?_eq_getElem hlt
  generalize l[i]=r at hr
  repeat'(first|refine An Ac J J J J J ?_|refine Ae Ac J J J ?_|refine Ag ?_|refine Ah ?_|refine Ai Ac J J ?_|(refine Af J (ht:=fun h=>?_) (hf:=fun h=>?_)<;>try exact prn)|refine Al ?_|refine Ao ?_|refine Ar ?_|refine AD Ac J J J J J J J (A2 Aa) J ?_|refine Ak Ac J J J J J J hfr (hf r) J J ?_)
  ·obtain⟨q1,q2⟩:=Abe hr hany h
   exact Au J (Sub.of_eq (by rw[q1,q2]))
  ·refine AF (i+1) ⟨hlt,Cd hr hany (by simpa using h)⟩ O [7] (Ad J J (Ad J J (Ad J J (Ad J J (Ad J ?_ Aq))))) J
   rw[A0 O O];rfl
 ·repeat'(first|refine Ae Ac J J J ?_|refine Ag ?_|refine Ah ?_|refine Ai Ac J J ?_|(refine Af J (ht:=fun h=>?_) (hf:=fun h=>?_)<;>try exact prn)|refine AB ?_|refine Ar ?_)
  have ha:=CM O hany
  exact Au J (Sub.of_eq (by rw[OE ha,ha,hlm]))
theorem LJ (fnum:Nat) (cap:List T) (p:Seen→Bool) (l:List Seen) (hl:l.length≤1000000000) (hf: ∀r,Ct Tryz.prog fnum (.agg (Aj (Bv r))::Aj cap) [] (.t (.bool (p r))) []) (hfr:Eo (Aj cap)=true):
  Ct Tryz.prog 175 [.t (.slice .any 3 (l.map Bv)),.t (.func (.func fnum) [] cap)] [] (.tuple [.t (.int .i64 (Nn p l)),.t (.bool (l.any p))]) []:=by
 refine ct0 Ac Tryz.func175 J false J J ?_
 have hlm:(l.map Bv).length=l.length:=List.length_map ..
 repeat'(first|refine Ae Ac J J J ?_|refine Ag ?_|refine Ah ?_|refine Ai Ac J J ?_|refine Al ?_)
 refine AM (ι:=Nat) (fun i=>i≤l.length∧(l.take i).any p=false) (fun i=>[(0,.t (.slice .any 3 (l.map Bv))),(1,.t (.func (.func fnum) [] cap)),(8,.t (.slice .any 3 (l.map Bv))),(9,.t (.int .i64 ((l.map Bv).length:Int))),(10,.t (.int .i64 i))]) (fun _=>[]) (fun i=>l.length-i) 0 Z ?_ ?_
 ·exact AR [] (Ad J J (Ad J J (Ad J J (Ad J J (Ad J J Aq))))) J
 rintro i ⟨hi,hany⟩
 by_cases hlt:i<l.length
 ·have hr:l[i]?=some l[i]:=List.getElem?_eq_getElem hlt
  generalize l[i]=r at hr
  repeat'(first|refine An Ac J J J J J ?_|refine Ae Ac J J J ?_|refine Ag ?_|refine Ah ?_|refine Ai Ac J J ?_|(refine Af J (ht:=fun h=>?_) (hf:=fun h=>?_)<;>try exact prn)|refine Al ?_|refine Ao ?_|refine Ar ?_|refine AD Ac J J J J J J J (A2 Aa) J ?_|refine Ak Ac J J J J J J hfr (hf r) J J ?_)
  ·obtain⟨q1,q2⟩:=Abe hr hany h
   exact Au J (Sub.of_eq (by rw[q1,q2]))
  ·refine AF (i+1) ⟨hlt,Cd hr hany (by simpa using h)⟩ O [7] (Ad J J (Ad J J (Ad J J (Ad J J (Ad J ?_ Aq))))) J
   rw[A0 O O];rfl
 ·repeat'(first|refine Ae Ac J J J ?_|refine Ag ?_|refine Ah ?_|refine Ai Ac J J ?_|(refine Af J (ht:=fun h=>?_) (hf:=fun h=>?_)<;>try exact prn)|refine AB ?_|refine Ar ?_)
  have ha:=CM O hany
  exact Au J (Sub.of_eq (by rw[OE ha,ha,hlm]))
theorem Gl (l:List Seen) (hl:l.length≤1000000):Ct Tryz.prog 101 [.t (.slice .any 3 (l.map Bv))] [] (.t (.slice .any 3 (l.map Bv))) []:=by
 refine ct0 Ac Tryz.func101 J false J J ?_
 have hlm:(l.map Bv).length=l.length:=List.length_map ..
 repeat'(first|refine An Ac J J J J J ?_|refine Ae Ac J J J ?_|refine Ag ?_|refine Ah ?_|refine Ai Ac J J ?_|(refine Af J (ht:=fun h=>?_) (hf:=fun h=>?_)<;>try exact prn)|refine Ao ?_|refine Ar ?_|refine RL Ac J J J J J (fun _=>rfl) (fun b hb=>?_)|refine NF Ac J J J J J J J J J J J J J (by simp;omega) ?_)
 ·refine Au J ?_
  have h0:=hb h
  rw[h0];exact A6
 ·refine Au J (Sub.of_eq ?_)
  simp[BA]
  exact List.take_of_length_le Z
theorem Ve (l:List Row) (hl:l.length≤1000000):Ct Tryz.prog 99 [.t (.slice .any 5 (l.map AC))] [] (.t (.slice .any 5 (l.map AC))) []:=by
 refine ct0 Ac Tryz.func99 J false J J ?_
 have hlm:(l.map AC).length=l.length:=List.length_map ..
 repeat'(first|refine An Ac J J J J J ?_|refine Ae Ac J J J ?_|refine Ag ?_|refine Ah ?_|refine Ai Ac J J ?_|(refine Af J (ht:=fun h=>?_) (hf:=fun h=>?_)<;>try exact prn)|refine Ao ?_|refine Ar ?_|refine RL Ac J J J J J (fun _=>rfl) (fun b hb=>?_)|refine NF Ac J J J J J J J J J J J J J (by simp;omega) ?_)
 ·refine Au J ?_
  have h0:=hb h
  rw[h0];exact A6
 ·refine Au J (Sub.of_eq ?_)
  simp[BA]
  exact List.take_of_length_le Z
theorem LY (l:List Rec) (hl:l.length≤1000000):Ct Tryz.prog 128 [.t (.slice .any 2 (l.map Bu))] [] (.t (.slice .any 2 (l.map Bu))) []:=by
 refine ct0 Ac Tryz.func128 J false J J ?_
 have hlm:(l.map Bu).length=l.length:=List.length_map ..
 repeat'(first|refine An Ac J J J J J ?_|refine Ae Ac J J J ?_|refine Ag ?_|refine Ah ?_|refine Ai Ac J J ?_|(refine Af J (ht:=fun h=>?_) (hf:=fun h=>?_)<;>try exact prn)|refine Ao ?_|refine Ar ?_|refine RL Ac J J J J J (fun _=>rfl) (fun b hb=>?_)|refine NF Ac J J J J J J J J J J J J J (by simp;omega) ?_)
 ·refine Au J ?_
  have h0:=hb h
  rw[h0];exact A6
 ·refine Au J (Sub.of_eq ?_)
  simp[BA]
  exact List.take_of_length_le Z
theorem JV (p:Prod) (h:p.seen.length≤1000000):Ct Tryz.prog 162 [.agg (Aj (Av p))] [] (.agg (Aj (Av p))) []:=by
 refine ct0 Ac Tryz.func162 J false J J ?_
 repeat'(first|refine An Ac J J J J J ?_|refine Ae Ac J J J ?_|refine Ag ?_|refine Ah ?_|refine Ai Ac J J ?_|refine Ar ?_|refine Ak Ac J J J J J J J (Gl p.seen h) J J ?_)
 exact Au J (Sub.refl _)
def CZ:Prod:=⟨0,0,0,[]⟩
def AX (l:List Prod) (pid:Int):Prod:=(l.find? (fun p=>decide (p.pid=pid))).getD CZ
def CK (l:List Prod) (pid:Int):Bool:=l.any (fun p=>decide (p.pid=pid))
theorem Wt (pid:Int) (p:Prod):Ct Tryz.prog 161 (.agg (Aj (Av p))::Aj [.ptr [.int .i64 pid]]) [] (.t (.bool (decide (p.pid=pid)))) []:=by
 refine ct0 Ac Tryz.func161 J false J J ?_
 repeat'(first|refine Ae Ac J J J ?_|refine Ag ?_|refine Ah ?_|refine Ai Ac J J ?_|refine Ar ?_)
 exact Au J (Sub.refl _)
theorem OL (l:List Prod) (pid:Int) (hl:EN l):Ct Tryz.prog 97 [.t (.slice .any 4 (l.map Av)),.t (.int .i64 pid)] [] (.tuple [.agg (Aj (Av (AX l pid))),.t (.bool (CK l pid))]) []:=by
 obtain⟨hl,hsm⟩:=hl
 have cf:=Ix 161 [.ptr [.int .i64 pid]] (fun p=>decide (p.pid=pid)) l O (Wt pid) J
 refine ct0 Ac Tryz.func97 J false J J ?_
 refine Ah ?_
 refine Ai Ac J J ?_
 repeat'(first|refine Ae Ac J J J ?_|refine Ag ?_)
 refine Tr.freezeBox (cs:=[.int .i64 pid]) 3 6 J J J J ?_
 cases hh:l.any (fun p=>decide (p.pid=pid))with
 |false=>
  rw[hh]at cf
  have hfp:AX l pid=CZ:=by
   have:l.find? (fun p=>decide (p.pid=pid))=none:=by rw[List.find?_eq_none];intro x hx;have:=List.any_eq_false.1 hh x hx;simpa using this
   simp[AX,this]
  repeat'(first|refine An Ac J J J J J ?_|refine Ae Ac J J J ?_|refine Ag ?_|refine Ah ?_|refine Ai Ac J J ?_|(refine Af J (ht:=fun h=>?_) (hf:=fun h=>?_)<;>try exact prn)|refine Ar ?_|refine Ak Ac J J J J J J J (cf) J J ?_)
  refine Au J ?_
  rw[CK,hh,hfp]
  exact AK ⟨B7 ⟨Sub.refl _,Sub.refl _,Sub.refl _,A6,trivial⟩,Sub.refl _,trivial⟩
 |true=>
  rw[hh]at cf
  obtain⟨i,x,hx,hi,hfx,_⟩:=JK hh
  have hfp:AX l pid=x:=by simp[AX,hfx]
  have hsx:=hsm x (List.mem_of_getElem? hx)
  repeat'(first|refine An Ac J J J J J ?_|refine Ae Ac J J J ?_|refine Ag ?_|refine Ah ?_|refine Ai Ac J J ?_|(refine Af J (ht:=fun h=>?_) (hf:=fun h=>?_)<;>try exact prn)|refine Ao ?_|refine Ar ?_|refine KN Ac J J J J J J J Aa (A2 Aa) J ?_|refine Ak Ac J J J J J J J (cf) J J ?_|refine Ak Ac J J J J J J J (JV x hsx) J J ?_)
  refine Au J (Sub.of_eq ?_)
  rw[CK,hh,hfp];rfl
end Go.Proofs.YtpdmaenhenfofaaGreatDoor
namespace Go.Proofs.YtpdmaenhenfofaaGreatDoor
open Go.Am
attribute [local irreducible] Decidable.decide
set_option maxRecDepth 100000
set_option maxHeartbeats 1000000
theorem YV:Zc 278 1:=fun pb po t n old w h1 h2 h3 h4=>(Aiu pb po t n old w h1 h2 h3 h4).mono fun ev w' h=>⟨h.1,_,_,_,_,h.2⟩
theorem YW:Zc 290 1:=fun pb po t n old w h1 h2 h3 h4=>(Aiv pb po t n old w h1 h2 h3 h4).mono fun ev w' h=>⟨h.1,_,_,_,_,h.2⟩
theorem SD:Zc 310 1:=fun pb po t n old w h1 h2 h3 h4=>(YX pb po t n old w h1 h2 h3 h4).mono fun ev w' h=>⟨h.1,_,_,_,_,h.2⟩
theorem Vw:Zc 97 1:=fun pb po t n old w h1 h2 h3 h4=>(Acd pb po t n old w h1 h2 h3 h4).mono fun ev w' h=>⟨h.1,_,_,_,_,h.2⟩
theorem Yw:Afc 290 1:=fun pb po n k w h=>by
 by_cases e:n=k
 ·subst e;simp only[decide_true];exact Adx pb po n n w h J
 ·simp only[e,decide_false];exact Ady pb po n k w h e
theorem Su:Afc 310 1:=fun pb po n k w h=>by
 by_cases e:n=k
 ·subst e;simp only[decide_true];exact Wj pb po n n w h J
 ·simp only[e,decide_false];exact Wl pb po n k w h e
theorem XS:Ct Tryz.prog 126 [.t .nilIface] [] (.t (.int .i64 0)) []:=by
 refine ct0 Ac Tryz.func126 J false J J ?_
 repeat'(first|refine Ae Ac J J J ?_|refine Ag ?_|refine Ah ?_|refine Ai Ac J J ?_|(refine AZ J J J J J (ht:=fun h=>?_) (hf:=fun h=>?_)<;>try exact prn)|(refine Af J (ht:=fun h=>?_) (hf:=fun h=>?_)<;>try exact prn)|refine Ao ?_|refine Ar ?_)
 exact Au J (Sub.of_eq J)
theorem Z9 (i n:Int):Ct Tryz.prog 126 [.t (.iface 278 (.ptr [.int .i64 i,.int .i64 n]))] [] (.t (.int .i64 n)) []:=by
 refine ct0 Ac Tryz.func126 J false J J ?_
 repeat'(first|refine Ae Ac J J J ?_|refine Ag ?_|refine Ah ?_|refine Ai Ac J J ?_|(refine AZ J J J J J (ht:=fun h=>?_) (hf:=fun h=>?_)<;>try exact prn)|(refine Af J (ht:=fun h=>?_) (hf:=fun h=>?_)<;>try exact prn)|refine Ao ?_|refine Ar ?_|refine A7 Ac [(6,1)] [(1,6)] J J J J J (Vv YV [.int .i64 i,.int .i64 n] n 0 J) J J J J J ?_)
 exact Au J (Sub.of_eq J)
theorem VN:Ct Tryz.prog 135 [.t .nilIface] [] (.t (.int .i64 0)) []:=by
 refine ct0 Ac Tryz.func135 J false J J ?_
 repeat'(first|refine Ae Ac J J J ?_|refine Ag ?_|refine Ah ?_|refine Ai Ac J J ?_|(refine Af J (ht:=fun h=>?_) (hf:=fun h=>?_)<;>try exact prn)|refine Al ?_|refine Ar ?_)
 exact Au J (Sub.of_eq J)
theorem QT (s:Bs) (n:Int):Ct Tryz.prog 135 [.t (Cv 290 s n)] [] (.t (.int .i64 n)) []:=by
 refine ct0 Ac Tryz.func135 J false J J ?_
 repeat'(first|refine Ae Ac J J J ?_|refine Ag ?_|refine Ah ?_|refine Ai Ac J J ?_|(refine Af J (ht:=fun h=>?_) (hf:=fun h=>?_)<;>try exact prn)|refine Al ?_|refine Ar ?_|refine Ak Ac J J J J J J J (Aay Yw [.str s,.int .i64 n] n 130 J) J J ?_|refine A7 Ac [(6,1)] [(1,6)] J J J J J (Vv YW [.str s,.int .i64 n] n 0 J) J J J J J ?_)
 all_goals(refine Au J (Sub.of_eq ?_);first|rfl|(rw[show n=130 by omega]))
theorem RB (s:Bs) (n:Int):Ct Tryz.prog 157 [.t (Cv 310 s n)] [] (.t (.int .i64 n)) []:=by
 refine ct0 Ac Tryz.func157 J false J J ?_
 repeat'(first|refine Ae Ac J J J ?_|refine Ag ?_|refine Ah ?_|refine Ai Ac J J ?_|(refine Af J (ht:=fun h=>?_) (hf:=fun h=>?_)<;>try exact prn)|refine Al ?_|refine Ar ?_|refine Ak Ac J J J J J J J (Aay Su [.str s,.int .i64 n] n 2 J) J J ?_|refine A7 Ac [(6,1)] [(1,6)] J J J J J (Vv SD [.str s,.int .i64 n] n 0 J) J J J J J ?_)
 all_goals(refine Au J (Sub.of_eq ?_);first|rfl|(rw[show n=2 by omega]))
theorem Ww:Ct Tryz.prog 39 [.t .nilIface] [] (.t (.int .i64 0)) []:=by
 refine ct0 Ac Tryz.func39 J false J J ?_
 repeat'(first|refine Ae Ac J J J ?_|refine Ag ?_|refine Ah ?_|refine Ai Ac J J ?_|(refine Af J (ht:=fun h=>?_) (hf:=fun h=>?_)<;>try exact prn)|refine Al ?_|refine Ar ?_)
 exact Au J (Sub.of_eq J)
theorem HH (s:Bs) (n:Int):Ct Tryz.prog 39 [.t (Cv 97 s n)] [] (.t (.int .i64 n)) []:=by
 refine ct0 Ac Tryz.func39 J false J J ?_
 repeat'(first|refine Ae Ac J J J ?_|refine Ag ?_|refine Ah ?_|refine Ai Ac J J ?_|(refine Af J (ht:=fun h=>?_) (hf:=fun h=>?_)<;>try exact prn)|refine Al ?_|refine Ar ?_|refine Ak Ac J J J J J J J (Aay U3 [.str s,.int .i64 n] n 2 J) J J ?_|refine A7 Ac [(6,1)] [(1,6)] J J J J J (Vv Vw [.str s,.int .i64 n] n 0 J) J J J J J ?_)
 all_goals(refine Au J (Sub.of_eq ?_);first|rfl|(rw[show n=2 by omega]))
theorem VO (p:Part) (h1:p.rows.length≤1000000000) (h2:p.opens.length≤1000000000):Ct Tryz.prog 92 [.agg (Aj (A5 p))] [] (.t (.int .i64 (if Fm p=true then 0 else 2))) []:=by
 refine ct0 Ac Tryz.func92 J false J J ?_
 have cc:=Od p h1 h2
 unfold rdT at cc
 cases h:Fm p with
 |true=>
  simp only[h,if_true]at cc
  repeat'(first|refine Ae Ac J J J ?_|refine Ag ?_|refine Ah ?_|refine Ai Ac J J ?_|refine Ar ?_|refine Ak Ac J J J J J J J (cc) J J ?_|refine Ak Ac J J J J J J J (VN) J J ?_)
  exact Au J (Sub.of_eq J)
 |false=>
  simp only[h,Bool.false_eq_true,if_false]at cc
  repeat'(first|refine Ae Ac J J J ?_|refine Ag ?_|refine Ah ?_|refine Ai Ac J J ?_|refine Ar ?_|refine Ak Ac J J J J J J J (cc) J J ?_|refine Ak Ac J J J J J J J (QT _ _) J J ?_)
  exact Au J (Sub.of_eq J)
def EG (b:Batch) (s:Seen):Bool:=decide (s.seq=b.seq∧s.count=(b.recs.length:Int))
def DR (l:List Prod) (b:Batch):Prod:=if CK l b.pid=true∧b.epoch≤(AX l b.pid).epoch then AX l b.pid else CZ
def CL (l:List Prod) (b:Batch):Bool:=CK l b.pid&&decide (b.epoch<(AX l b.pid).epoch)
def He (l:List Prod) (b:Batch):Int:=if(DR l b).seen.any (EG b)=true then(((DR l b).seen.find? (EG b)).map Seen.base).getD 0 else if b.seq=(DR l b).next then-1 else 0
def Ee (l:List Prod) (b:Batch):Int:=if CL l b=true then 100 else if(DR l b).seen.any (EG b)=true then 0 else if b.seq=(DR l b).next then 0 else 101
def Hd (l:List Prod) (b:Batch):Bool:= !CL l b&&(DR l b).seen.any (EG b)
def VK (pid n:Int):T:=.iface 278 (.ptr [.int .i64 pid,.int .i64 n])
def Qt (l:List Prod) (b:Batch):T:=if Ee l b=0 then .nilIface else VK b.pid (Ee l b)
theorem Rw (b:Batch) (s:Seen):Ct Tryz.prog 174 (.agg (Aj (Bv s))::Aj [.ptr (Ap b)]) [] (.t (.bool (EG b s))) []:=by
 refine ct0 Ac Tryz.func174 J false J J ?_
 have hlm:(b.recs.map Bu).length=b.recs.length:=List.length_map ..
 repeat'(first|refine Ae Ac J J J ?_|refine Ag ?_|refine Ah ?_|refine Ai Ac J J ?_|(refine AZ J J J J J (ht:=fun h=>?_) (hf:=fun h=>?_)<;>try exact prn)|refine Ar ?_)
 all_goals(refine Au J (BJ ?_);simp_all[EG];try rfl)
theorem Aav (l:List Prod) (b:Batch) (hl:EN l) (hb:b.recs.length≤1000000000):Ct Tryz.prog 125 [.t (.slice .any 4 (l.map Av)),.agg (Aj (Ap b))] [] (.tuple [.t (.int .i64 (if CL l b=true then 0 else He l b)),.t (.bool (Hd l b)),.t (Qt l b)]) []:=by
 have cfind:=OL l b.pid hl
 have hlm:(b.recs.map Bu).length=b.recs.length:=List.length_map ..
 have hsm:(AX l b.pid).seen.length≤1000000:=by
  unfold AX
  cases hf:l.find? (fun p=>decide (p.pid=b.pid))with
  |none=>simp[CZ]
  |some x=>simpa using hl.2 x (List.mem_of_find?_eq_some hf)
 have cf:=fun(p:Prod) (h:p.seen.length≤1000000)=>LJ 174 [.ptr (Ap b)] (EG b) p.seen O (Rw b) J
 have c0:Ct Tryz.prog 175 [.t (.slice .any 3 []),.t (.func (.func 174) [] [.ptr (Ap b)])] [] (.tuple [.t (.int .i64 0),.t (.bool false)]) []:=LJ 174 [.ptr (Ap b)] (EG b) [] Z (Rw b) J
 have hz0:CZ.seen.any (EG b)=false:=rfl
 refine ct0 Ac Tryz.func125 J false J J ?_
 refine Ah ?_
 refine Ai Ac J J ?_
 repeat'(first|refine Ae Ac J J J ?_|refine Ag ?_)
 refine Tr.freezeBox (cs:=Ap b) 3 6 J J J J ?_
 cases hk:CK l b.pid with
 |false=>
  rw[hk]at cfind
  have hcur:DR l b=CZ:=by simp[DR,hk]
  have hfen:CL l b=false:=by simp[CL,hk]
  repeat'(first|refine An Ac J J J J J ?_|refine Ae Ac J J J ?_|refine Ag ?_|refine Ah ?_|refine Ai Ac J J ?_|(refine AZ J J J J J (ht:=fun h=>?_) (hf:=fun h=>?_)<;>try exact prn)|(refine AP J J J J J (ht:=fun h=>?_) (hf:=fun h=>?_)<;>try exact prn)|(refine Af J (ht:=fun h=>?_) (hf:=fun h=>?_)<;>try exact prn)|refine Al ?_|refine Ao ?_|refine AB ?_|refine Ar ?_|refine A9 (id:=11) (m:=7) Ac Y J J J J ?_|refine AA J J J J ?_|refine Ak Ac J J J J J J J (cfind) J J ?_|refine Ck Ac J J J J (c0) J J J ⟨A6,Sub.refl _,trivial⟩ ?_)
  all_goals(refine Au J (Sub.of_eq ?_);simp_all[Hd,Qt,Ee,He,CZ,VK])
 |true=>
  rw[hk]at cfind
  generalize hp:AX l b.pid=p at cfind hsm
  have cfp:=cf p hsm
  have hno:CL l b=decide (b.epoch<p.epoch):=by simp[CL,hk,hp]
  by_cases hlt:b.epoch<p.epoch
  ·have hfen:CL l b=true:=by simp[hno,hlt]
   repeat'(first|refine An Ac J J J J J ?_|refine Ae Ac J J J ?_|refine Ag ?_|refine Ah ?_|refine Ai Ac J J ?_|(refine AZ J J J J J (ht:=fun h=>?_) (hf:=fun h=>?_)<;>try exact prn)|(refine Af J (ht:=fun h=>?_) (hf:=fun h=>?_)<;>try exact prn)|refine Al ?_|refine AB ?_|refine Ar ?_|refine A9 (id:=4) (m:=7) Ac Y J J J J ?_|refine AA J J J J ?_|refine Ak Ac J J J J J J J (cfind) J J ?_)
   all_goals(refine Au J (Sub.of_eq ?_);simp[Hd,Qt,Ee,hfen,VK])
  ·have hfen:CL l b=false:=by simp[hno,hlt]
   by_cases hgt:p.epoch<b.epoch
   ·have hcur:DR l b=CZ:=by simp[DR,hk,hp];omega
    repeat'(first|refine An Ac J J J J J ?_|refine Ae Ac J J J ?_|refine Ag ?_|refine Ah ?_|refine Ai Ac J J ?_|(refine AZ J J J J J (ht:=fun h=>?_) (hf:=fun h=>?_)<;>try exact prn)|(refine AP J J J J J (ht:=fun h=>?_) (hf:=fun h=>?_)<;>try exact prn)|(refine Af J (ht:=fun h=>?_) (hf:=fun h=>?_)<;>try exact prn)|refine Al ?_|refine Ao ?_|refine AB ?_|refine Ar ?_|refine A9 (id:=11) (m:=7) Ac Y J J J J ?_|refine AA J J J J ?_|refine Ak Ac J J J J J J J (cfind) J J ?_|refine Ck Ac J J J J (c0) J J J ⟨A6,Sub.refl _,trivial⟩ ?_)
    all_goals(refine Au J (Sub.of_eq ?_);simp_all[Hd,Qt,Ee,He,CZ,VK])
   ·have hcur:DR l b=p:=by simp[DR,hk,hp];omega
    cases hany:p.seen.any (EG b)with
    |false=>
     rw[hany]at cfp
     repeat'(first|refine An Ac J J J J J ?_|refine Ae Ac J J J ?_|refine Ag ?_|refine Ah ?_|refine Ai Ac J J ?_|(refine AZ J J J J J (ht:=fun h=>?_) (hf:=fun h=>?_)<;>try exact prn)|(refine AP J J J J J (ht:=fun h=>?_) (hf:=fun h=>?_)<;>try exact prn)|(refine Af J (ht:=fun h=>?_) (hf:=fun h=>?_)<;>try exact prn)|refine Al ?_|refine Ao ?_|refine AB ?_|refine Ar ?_|refine A9 (id:=11) (m:=7) Ac Y J J J J ?_|refine AA J J J J ?_|refine Ak Ac J J J J J J J (cfind) J J ?_|refine Ak Ac J J J J J J J (cfp) J J ?_)
     all_goals(refine Au J (Sub.of_eq ?_);simp_all[Hd,Qt,Ee,He,VK])
    |true=>
     rw[hany]at cfp
     obtain⟨i,x,hx,hi,hfx,_⟩:=JK hany
     repeat'(first|refine An Ac J J J J J ?_|refine Ae Ac J J J ?_|refine Ag ?_|refine Ah ?_|refine Ai Ac J J ?_|(refine AZ J J J J J (ht:=fun h=>?_) (hf:=fun h=>?_)<;>try exact prn)|(refine AP J J J J J (ht:=fun h=>?_) (hf:=fun h=>?_)<;>try exact prn)|(refine Af J (ht:=fun h=>?_) (hf:=fun h=>?_)<;>try exact prn)|refine Al ?_|refine Ao ?_|refine AB ?_|refine Ar ?_|refine KN Ac J J J J J J J Aa (A2 Aa) J ?_|refine Ak Ac J J J J J J J (cfind) J J ?_|refine Ak Ac J J J J J J J (cfp) J J ?_)
     all_goals(refine Au J (Sub.of_eq ?_);simp_all[Hd,Qt,Ee,He,VK])
end Go.Proofs.YtpdmaenhenfofaaGreatDoor
