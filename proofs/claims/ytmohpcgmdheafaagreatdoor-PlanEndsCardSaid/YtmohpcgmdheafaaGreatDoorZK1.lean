/- Contracts and laws, joined: Qa, Qb, Pf, Kn. No condition beside those that each theorem names. -/
import Derived.Test.YtmohpcgmdheafaaGreatDoorZJ2
set_option linter.unusedVariables false
set_option linter.unusedSimpArgs false
set_option maxRecDepth 100000
set_option maxHeartbeats 8000000
namespace Go.Proofs.YtmohpcgmdheafaaGreatDoor
open Go.Am
attribute [local irreducible] Decidable.decide Tr A2 hSK hSW
def CE (t:Nat) (what:Bs) (n:Int):T:=.iface t (.ptr [.str what,.int .i64 n])
def Dv {α:Type} (f:α->Int) (l:List α):Bool:=decide ((l.map f).Pairwise (· < ·))
theorem KQ {α:Type} {f:α->Int} {l:List α} (h:Dv f l=true) {i j:Nat} {x y:α} (hx:l[i]?=some x) (hy:l[j]?=some y) (hij:i<j):f x<f y:=by
 have:=of_decide_eq_true h
 rw[List.pairwise_map]at this
 obtain⟨h1,rfl⟩:=List.getElem?_eq_some_iff.1 hx
 obtain⟨h2,rfl⟩:=List.getElem?_eq_some_iff.1 hy
 exact List.pairwise_iff_getElem.1 this i j h1 h2 hij
theorem KP {α:Type} {f:α->Int} {l:List α} {i:Nat} {x y:α} (hx:l[i]?=some x) (hy:l[i-1]?=some y) (hi:1<=i) (h:f x<=f y):Dv f l=false:=by
 cases hr:Dv f l with
 |false=>rfl
 |true=>have:=KQ hr hy hx Aa;omega
theorem Jc {α:Type} {f:α->Int} {l:List α} {i:Nat} {x y:α} (hx:l[i]?=some x) (hy:l[i-1]?=some y) (hi:1<=i) (h:f y<f x) (hr:Dv f (l.take i)=true):Dv f (l.take (i+1))=true:=by
 rw[A5 hx]
 refine decide_eq_true ?_
 rw[List.map_append,List.pairwise_append]
 refine⟨of_decide_eq_true hr,by simp,fun a ha b hb=>?_⟩
 simp at hb;subst hb
 obtain⟨z,hz,rfl⟩:=List.mem_map.1 ha
 obtain⟨j,hj,rfl⟩:=List.getElem_of_mem hz
 have hlen:(l.take i).length=i:=by simp;have:=(List.getElem?_eq_some_iff.1 hx).1;omega
 rw[hlen]at hj
 have hjj:(l.take i)[j]?=some (l.take i)[j]:=List.getElem?_eq_getElem _
 by_cases e:j=i-1
 ·have:(l.take i)[j]?=some y:=by rw[List.getElem?_take,if_pos hj,e];exact hy
  rw[hjj]at this;cases this;exact h
 ·have hyy:(l.take i)[i-1]?=some y:=by rw[List.getElem?_take,if_pos Aa];exact hy
  have:=KQ hr hjj hyy Aa
  omega
theorem KO {α:Type} (f:α->Int) (l:List α) (h:l.length<=1):Dv f l=true:=by
 match l,h with
 |[],_=>simp[Dv]
 |[a],_=>simp[Dv]
theorem UK (fnum:Nat) (f:Row->Int) (l:List Row) (hl:l.length<=1000000000) (hf: ∀r,A17 fnum [.agg (Ah (A8 r))] [] (.t (.int .i64 (f r))) []):
  A17 309 [.t (.slice .any 5 (l.map A8)),.t (.func (.func fnum) [] [])] [] (.t (.bool (Dv f l))) []:=by
 refine ct0 Ag Tryz.func309 Y false Y Y ?_
 have hlm:(l.map A8).length=l.length:=List.length_map ..
 repeat'(first|exact prB|refine stC ?_|refine stU (fun h=>?_) fun h=>?_|refine stN (fun b hb=>?_)|refine stD 4 12 ?_|fail)
 refine A3 (ι:=Nat) (fun i=>1<=i/\i<=l.length+1/\Dv f (l.take i)=true) (fun i=>[(0,.t (.slice .any 5 (l.map A8))),(1,.t (.func (.func fnum) [] [])),(5,.t (.int .i64 i))]) (fun _=>[]) (fun i=>l.length+1-i) 1 ⟨by simp,by simp,KO _ _ (by simp;omega)⟩ ?_ ?_
 ·exact AE [] (Af Y Y (Af Y Y (Af Y Y Aj))) Y
 rintro i ⟨h1,hi,hr0⟩
 by_cases hlt:i<l.length
 ·have hr:l[i]?=some l[i]:=List.getElem?_eq_getElem hlt
  have hs:l[i-1]?=some (l[i-1]' Aa):=List.getElem?_eq_getElem _
  generalize l[i]=r at hr
  generalize l[i-1]' Aa=s at hs
  have hw:IntKind.i64.wrap ((i:Int)-1)=((i-1:Nat):Int):=by rw[An Aa Aa];omega
  repeat'(first|exact prB|refine stC ?_|refine stU (fun h=>?_) fun h=>?_|refine stN (fun b hb=>?_)|refine stD 4 12 ?_|refine stM ?_ (c:=hf r)|refine stL ?_ (c:=hf s)|fail)
  ·refine Ai Y (AP ?_)
   rw[KP hr hs h1 (by simpa using h)]
  ·refine Ay (i+1) ⟨by omega,by omega,Jc hr hs h1 Aa hr0⟩ Aa [] (Af Y Y (Af Y Y (Af Y ?_ Aj))) Y
   rw[An Aa Aa];rfl
 ·repeat'(first|exact prB|refine stC ?_|refine stU (fun h=>?_) fun h=>?_|refine stN (fun b hb=>?_)|refine stD 4 12 ?_|fail)
  refine Ai Y (AP ?_)
  rw[List.take_of_length_le Aa]at hr0
  exact hr0.symm
theorem UL (fnum:Nat) (f:Opn->Int) (l:List Opn) (hl:l.length<=1000000000) (hf: ∀r,A17 fnum [.agg (Ah (As r))] [] (.t (.int .i64 (f r))) []):
  A17 311 [.t (.slice .any 3 (l.map As)),.t (.func (.func fnum) [] [])] [] (.t (.bool (Dv f l))) []:=by
 refine ct0 Ag Tryz.func311 Y false Y Y ?_
 have hlm:(l.map As).length=l.length:=List.length_map ..
 repeat'(first|exact prB|refine stC ?_|refine stU (fun h=>?_) fun h=>?_|refine stN (fun b hb=>?_)|refine stD 4 12 ?_|fail)
 refine A3 (ι:=Nat) (fun i=>1<=i/\i<=l.length+1/\Dv f (l.take i)=true) (fun i=>[(0,.t (.slice .any 3 (l.map As))),(1,.t (.func (.func fnum) [] [])),(5,.t (.int .i64 i))]) (fun _=>[]) (fun i=>l.length+1-i) 1 ⟨by simp,by simp,KO _ _ (by simp;omega)⟩ ?_ ?_
 ·exact AE [] (Af Y Y (Af Y Y (Af Y Y Aj))) Y
 rintro i ⟨h1,hi,hr0⟩
 by_cases hlt:i<l.length
 ·have hr:l[i]?=some l[i]:=List.getElem?_eq_getElem hlt
  have hs:l[i-1]?=some (l[i-1]' Aa):=List.getElem?_eq_getElem _
  generalize l[i]=r at hr
  generalize l[i-1]' Aa=s at hs
  have hw:IntKind.i64.wrap ((i:Int)-1)=((i-1:Nat):Int):=by rw[An Aa Aa];omega
  repeat'(first|exact prB|refine stC ?_|refine stU (fun h=>?_) fun h=>?_|refine stN (fun b hb=>?_)|refine stD 4 12 ?_|refine stM ?_ (c:=hf r)|refine stL ?_ (c:=hf s)|fail)
  ·refine Ai Y (AP ?_)
   rw[KP hr hs h1 (by simpa using h)]
  ·refine Ay (i+1) ⟨by omega,by omega,Jc hr hs h1 Aa hr0⟩ Aa [] (Af Y Y (Af Y Y (Af Y ?_ Aj))) Y
   rw[An Aa Aa];rfl
 ·repeat'(first|exact prB|refine stC ?_|refine stU (fun h=>?_) fun h=>?_|refine stN (fun b hb=>?_)|refine stD 4 12 ?_|fail)
  refine Ai Y (AP ?_)
  rw[List.take_of_length_le Aa]at hr0
  exact hr0.symm
def JW (p:Part) (r:Row):Bool:=decide (p.start<=r.offset/\r.offset<p.fin)
def DR (p:Part):Bool:=decide (0<=p.start/\p.start<=p.fin/\p.fin<=1048576)&&(Dv Row.offset p.rows&&(p.rows.all (JW p)&&(Dv Opn.pid p.opens&& !p.opens.any (fun o=>o.batches.isEmpty))))
def Ayf:Bs:=[97,32,112,97,114,116,32,116,104,97,116,32,99,97,110,110,111,116,32,98,101,32,114,101,97,100]
def rdT (p:Part):T:=if DR p=true then .nilIface else CE 289 Ayf 2
theorem Aiy {p:Part} {a z:Row} (hr:Dv Row.offset p.rows=true) (ha:p.rows[0]?=some a) (hz:p.rows[p.rows.length-1]?=some z):p.rows.all (JW p)=decide (p.start<=a.offset/\z.offset<p.fin):=by
 rw[Bool.eq_iff_iff,List.all_eq_true]
 simp only[JW,decide_eq_true_eq]
 constructor
 ·intro h;exact⟨(h a (List.mem_of_getElem? ha)).1,(h z (List.mem_of_getElem? hz)).2⟩
 ·intro h r hm
  obtain⟨i,hi⟩:=List.getElem?_of_mem hm
  have hlt:=(List.getElem?_eq_some_iff.1 hi).1
  constructor
  ·by_cases e:i=0
   ·subst e;rw[ha]at hi;cases hi;exact h.1
   ·have:=KQ hr ha hi Aa;omega
  ·by_cases e:i=p.rows.length-1
   ·subst e;rw[hz]at hi;cases hi;exact h.2
   ·have:=KQ hr hi hz Aa;omega
theorem Ag0 (r:Row):A17 310 [.agg (Ah (A8 r))] [] (.t (.int .i64 r.offset)) []:=by
 refine ct0 Ag Tryz.func310 Y false Y Y ?_
 repeat'(first|exact prB|refine stC ?_|refine stU (fun h=>?_) fun h=>?_|refine stN (fun b hb=>?_)|fail)
 exact Ai Y (A1x _)
theorem Agz (o:Opn):A17 312 [.agg (Ah (As o))] [] (.t (.int .i64 o.pid)) []:=by
 refine ct0 Ag Tryz.func312 Y false Y Y ?_
 repeat'(first|exact prB|refine stC ?_|refine stU (fun h=>?_) fun h=>?_|refine stN (fun b hb=>?_)|fail)
 exact Ai Y (A1x _)
theorem Ag1 (o:Opn):A17 314 [.agg (Ah (As o))] [] (.t (.bool o.batches.isEmpty)) []:=by
 refine ct0 Ag Tryz.func314 Y false Y Y ?_
 repeat'(first|exact prB|refine stC ?_|refine stU (fun h=>?_) fun h=>?_|refine stN (fun b hb=>?_)|fail)
 refine Ai Y (AP ?_)
 cases o.batches<;>simp;omega
theorem YK (p:Part) (h1:p.rows.length<=1000000000) (h2:p.opens.length<=1000000000):A17 257 [.agg (Ah (AD p))] [] (.t (rdT p)) []:=by
 have c1:=UK 310 Row.offset p.rows h1 Ag0
 have c2:=UL 312 Opn.pid p.opens h2 Agz
 have c3:=Sj 314 [] (fun o=>o.batches.isEmpty) p.opens h2 Ag1 Y
 have hlm:(p.rows.map A8).length=p.rows.length:=List.length_map ..
 refine ct0 Ag Tryz.func257 Y false Y Y ?_
 by_cases hlt:0<p.rows.length
 ·have ha:p.rows[0]?=some p.rows[0]:=List.getElem?_eq_getElem _
  have hz:p.rows[p.rows.length-1]?=some (p.rows[p.rows.length-1]' Aa):=List.getElem?_eq_getElem _
  have he:=fun hr=>Aiy hr ha hz
  generalize p.rows[0]=a at ha he
  generalize p.rows[p.rows.length-1]' Aa=z at hz he
  have hw:IntKind.i64.wrap (((p.rows.map A8).length:Int)-1)=((p.rows.length-1:Nat):Int):=by rw[hlm,An Aa Aa];omega
  have hiff:DR p=true↔(0<=p.start/\p.start<=p.fin/\p.fin<=1048576)/\Dv Row.offset p.rows=true/\(p.start<=a.offset/\z.offset<p.fin)/\Dv Opn.pid p.opens=true/\ ¬p.opens.any (fun o=>o.batches.isEmpty)=true:=by
   simp only[DR,Bool.and_eq_true,decide_eq_true_eq,Bool.not_eq_true',Bool.not_eq_true]
   constructor
   ·rintro⟨q1,q2,q3,q4,q5⟩;rw[he q2,decide_eq_true_eq]at q3;exact⟨q1,q2,q3,q4,q5⟩
   ·rintro⟨q1,q2,q3,q4,q5⟩;exact⟨q1,q2,by rw[he q2,decide_eq_true_eq];exact q3,q4,q5⟩
  repeat'(first|exact prB|refine stC ?_|refine stU (fun h=>?_) fun h=>?_|refine stN (fun b hb=>?_)|refine stD 4 21 ?_|refine stL ?_ (c:=c1)|refine stL ?_ (c:=c2)|refine stL ?_ (c:=c3)|fail)
  all_goals refine Ai Y (A1y ?_)
  all_goals first|(rw[rdT,if_pos (hiff.2 ⟨by omega,by first|assumption|exact Classical.byContradiction Ad,by omega,by first|assumption|exact Classical.byContradiction Ad,by first|assumption|exact Classical.byContradiction Ad⟩)])|(rw[rdT,if_neg (fun hc=>by obtain⟨q1,q2,q3,q4,q5⟩:=hiff.1 hc;first|omega|contradiction)];rfl)
 ·have hn:p.rows=[]:=List.eq_nil_of_length_eq_zero Aa
  have hiff:DR p=true↔(0<=p.start/\p.start<=p.fin/\p.fin<=1048576)/\Dv Row.offset p.rows=true/\Dv Opn.pid p.opens=true/\ ¬p.opens.any (fun o=>o.batches.isEmpty)=true:=by
   simp only[DR,Bool.and_eq_true,decide_eq_true_eq,Bool.not_eq_true',Bool.not_eq_true]
   have ha:p.rows.all (JW p)=true:=by rw[hn];rfl
   rw[ha];simp
  repeat'(first|exact prB|refine stC ?_|refine stU (fun h=>?_) fun h=>?_|refine stN (fun b hb=>?_)|refine stD 4 21 ?_|refine stL ?_ (c:=c1)|refine stL ?_ (c:=c2)|refine stL ?_ (c:=c3)|fail)
  all_goals refine Ai Y (A1y ?_)
  all_goals first|(rw[rdT,if_pos (hiff.2 ⟨by omega,by first|assumption|exact Classical.byContradiction Ad,by first|assumption|exact Classical.byContradiction Ad,by first|assumption|exact Classical.byContradiction Ad⟩)])|(rw[rdT,if_neg (fun hc=>by obtain⟨q1,q2,q4,q5⟩:=hiff.1 hc;first|omega|contradiction)];rfl)
theorem Adu (r:Rec):A17 252 [.agg (Ah (AJ r))] [] (.t (.bool (!Ix r))) []:=by
 refine ct0 Ag Tryz.func252 Y false Y Y ?_
 repeat'(first|exact prB|refine stC ?_|refine stU (fun h=>?_) fun h=>?_|fail)
 all_goals(refine Ai Y (AP ?_);unfold Ix)
 all_goals(rw[Bool.eq_iff_iff];simp;omega)
theorem Fl (b:Batch) (hl:b.recs.length<=1000000000):A17 182 [.agg (Ah (Au b))] [] (.t (.bool (A9 b))) []:=by
 refine ct0 Ag Tryz.func182 Y false Y Y ?_
 have hlm:(b.recs.map AJ).length=b.recs.length:=List.length_map ..
 have hw:(b.recs.length:Int)<=4->IntKind.i64.wrap (1048576-((b.recs.map AJ).length:Int))=1048576-(b.recs.length:Int):=fun h=>by rw[An Aa Aa,hlm]
 repeat'(first|exact prB|refine stC ?_|refine stU (fun h=>?_) fun h=>?_|refine stL ?_ (c:=Si 252 [] (fun r=> !Ix r) b.recs hl Adu Y)|fail)
 all_goals try(refine Ai Y (AP (Ze ?_));unfold CN;omega)
 have hbd:CN b:=by unfold CN;have:=hw Aa;omega
 refine Ai Y (AP ?_)
 simp only[A9,hbd,decide_true,Bool.true_and]
 rw[List.all_eq_not_any_not]
theorem Xy (a b:List Rec) (ha:a.length<=1000000000):A17 250 [.t (.slice .any 2 (a.map AJ)),.t (.slice .any 2 (b.map AJ))] [] (.t (.bool (decide (a=b)))) []:=by
 refine ct0 Ag Tryz.func250 Y false Y Y ?_
 have hla:(a.map AJ).length=a.length:=List.length_map ..
 have hlb:(b.map AJ).length=b.length:=List.length_map ..
 repeat'(first|exact prB|refine stC ?_|refine stU (fun h=>?_) fun h=>?_|refine stD 6 8 ?_|fail)
 ·exact Ai Y (AP (bF fun e=>by subst e;exact h Y))
 have hl:a.length=b.length:=by omega
 refine A3 (ι:=Nat) (fun i=>i<=a.length/\a.take i=b.take i) (fun i=>[(0,.t (.slice .any 2 (a.map AJ))),(1,.t (.slice .any 2 (b.map AJ))),(12,.t (.int .i64 ((a.map AJ).length:Int))),(13,.t (.int .i64 i))]) (fun _=>[]) (fun i=>a.length-i) 0 Ac ?_ ?_
 ·exact AE [] (Af Y Y (Af Y Y (Af Y Y (Af Y Y Aj)))) Y
 rintro i ⟨hi,htk⟩
 by_cases hlt:i<a.length
 ·have hr:a[i]?=some a[i]:=List.getElem?_eq_getElem hlt
  have hs:b[i]?=some (b[i]' Aa):=List.getElem?_eq_getElem _
  generalize a[i]=r at hr
  generalize b[i]' Aa=s at hs
  repeat'(first|exact prB|refine stC ?_|refine stU (fun h=>?_) fun h=>?_|refine stD 6 8 ?_|fail)
  ·exact Ai Y (AP (bF (fun e=>by subst e;rw[hr]at hs;cases hs;simp at h)))
  ·have e:r=s:=by cases r;cases s;simp at h;simp[h]
   refine Ay (i+1) ⟨hlt,DV hr hs htk e⟩ Aa [] (Af Y Y (Af Y Y (Af Y Y (Af Y ?_ Aj)))) Y
   rw[An Aa Aa];rfl
 ·repeat'(first|exact prB|refine stC ?_|refine stU (fun h=>?_) fun h=>?_|refine stD 6 8 ?_|fail)
  exact Ai Y (AP (bT (Fg hl Aa htk)))
theorem Vr (a b:List Seen) (ha:a.length<=1000000000):A17 379 [.t (.slice .any 3 (a.map AM)),.t (.slice .any 3 (b.map AM))] [] (.t (.bool (decide (a=b)))) []:=by
 refine ct0 Ag Tryz.func379 Y false Y Y ?_
 have hla:(a.map AM).length=a.length:=List.length_map ..
 have hlb:(b.map AM).length=b.length:=List.length_map ..
 repeat'(first|exact prB|refine stC ?_|refine stU (fun h=>?_) fun h=>?_|refine stD 6 8 ?_|fail)
 ·exact Ai Y (AP (bF fun e=>by subst e;exact h Y))
 have hl:a.length=b.length:=by omega
 refine A3 (ι:=Nat) (fun i=>i<=a.length/\a.take i=b.take i) (fun i=>[(0,.t (.slice .any 3 (a.map AM))),(1,.t (.slice .any 3 (b.map AM))),(12,.t (.int .i64 ((a.map AM).length:Int))),(13,.t (.int .i64 i))]) (fun _=>[]) (fun i=>a.length-i) 0 Ac ?_ ?_
 ·exact AE [] (Af Y Y (Af Y Y (Af Y Y (Af Y Y Aj)))) Y
 rintro i ⟨hi,htk⟩
 by_cases hlt:i<a.length
 ·have hr:a[i]?=some a[i]:=List.getElem?_eq_getElem hlt
  have hs:b[i]?=some (b[i]' Aa):=List.getElem?_eq_getElem _
  generalize a[i]=r at hr
  generalize b[i]' Aa=s at hs
  repeat'(first|exact prB|refine stC ?_|refine stU (fun h=>?_) fun h=>?_|refine stD 6 8 ?_|fail)
  ·exact Ai Y (AP (bF (fun e=>by subst e;rw[hr]at hs;cases hs;simp at h)))
  ·have e:r=s:=by cases r;cases s;simp at h;simp[h]
   refine Ay (i+1) ⟨hlt,DV hr hs htk e⟩ Aa [] (Af Y Y (Af Y Y (Af Y Y (Af Y ?_ Aj)))) Y
   rw[An Aa Aa];rfl
 ·repeat'(first|exact prB|refine stC ?_|refine stU (fun h=>?_) fun h=>?_|refine stD 6 8 ?_|fail)
  exact Ai Y (AP (bT (Fg hl Aa htk)))
theorem Wk (a b:Batch) (ha:a.recs.length<=1000000):A17 179 [.agg (Ah (Au a)),.agg (Ah (Au b))] [] (.t (.bool (decide (a=b)))) []:=by
 refine ct0 Ag Tryz.func179 Y false Y Y ?_
 repeat'(first|exact prB|refine stC ?_|refine stU (fun h=>?_) fun h=>?_|refine stL ?_ (c:=Xy a.recs b.recs Aa)|fail)
 ·refine Ai Y (AP (bI ?_));cases a;cases b;simp at*;simp[*]
 all_goals exact Ai Y (AP (bF (fun e=>by subst e;simp at*)))
theorem Vq (a b:Prod) (ha:a.seen.length<=1000000):A17 375 [.agg (Ah (Al a)),.agg (Ah (Al b))] [] (.t (.bool (decide (a=b)))) []:=by
 refine ct0 Ag Tryz.func375 Y false Y Y ?_
 repeat'(first|exact prB|refine stC ?_|refine stU (fun h=>?_) fun h=>?_|refine stL ?_ (c:=Vr a.seen b.seen Aa)|fail)
 ·refine Ai Y (AP (bI ?_));cases a;cases b;simp at*;simp[*]
 all_goals exact Ai Y (AP (bF (fun e=>by subst e;simp at*)))
theorem Gk (a b:Entry) (ha:a.b.recs.length<=1000000) (hp:a.prod.seen.length<=1000000):A17 363 [.agg (Ah (Az a)),.agg (Ah (Az b))] [] (.t (.bool (decide (a=b)))) []:=by
 refine ct0 Ag Tryz.func363 Y false Y Y ?_
 repeat'(first|exact prB|refine stC ?_|refine stU (fun h=>?_) fun h=>?_|refine stL ?_ (c:=Wk a.b b.b ha)|refine stL ?_ (c:=Vq a.prod b.prod hp)|fail)
 ·refine Ai Y (AP (bI ?_))
  rcases a with⟨k1,b1,y1,n1,o1,⟨ro1,rp1,rs1,rk1,rv1⟩,p1⟩
  rcases b with⟨k2,b2,y2,n2,o2,⟨ro2,rp2,rs2,rk2,rv2⟩,p2⟩
  simp at*;simp[*]
 all_goals exact Ai Y (AP (bF (fun e=>by subst e;simp at*)))
theorem GG (n:Int):A17 325 [.t (.int .i64 n)] [] (.t (.bool (decide (0<=n/\n<=1048576)))) []:=by
 refine ct0 Ag Tryz.func325 Y false Y Y ?_
 repeat'(first|exact prB|refine stC ?_|refine stU (fun h=>?_) fun h=>?_|fail)
 all_goals(refine Ai Y (AP ?_);(first|exact bI Aa|exact bT Aa|exact bF Aa))
theorem Dh (a b:Int):A17 324 [.t (.int .i64 a),.t (.int .i64 b)] [] (.t (.bool (decide (1<=a/\a<=8/\0<=b/\b<=100)))) []:=by
 refine ct0 Ag Tryz.func324 Y false Y Y ?_
 repeat'(first|exact prB|refine stC ?_|refine stU (fun h=>?_) fun h=>?_|fail)
 all_goals(refine Ai Y (AP ?_);(first|exact bI Aa|exact bT Aa|exact bF Aa))
theorem N3 (r:Row):A17 362 [.agg (Ah (A8 r))] [] (.t (.bool (decide (r.offset=0)&&FD r))) []:=by
 refine ct0 Ag Tryz.func362 Y false Y Y ?_
 repeat'(first|exact prB|refine stC ?_|refine stU (fun h=>?_) fun h=>?_|refine stL ?_ (c:=Dh _ _)|fail)
 all_goals(refine Ai Y (AP ?_);unfold FD;rw[Bool.eq_iff_iff];simp;omega)
theorem Anh (l:List Seen):A17 326 [.t (.slice .any 3 (l.map AM))] [] (.t (.func (.func 349) [] [.ptr [.slice .any 3 (l.map AM)]])) []:=by
 refine ct0 Ag Tryz.func326 Y false Y Y ?_
 refine Ik ?_
 refine L4 Ag Y Y ?_
 repeat'(first|exact prB|refine stA ?_|refine stU (fun h=>?_) fun h=>?_|fail)
 refine A12 (cs:=[.slice .any 3 (l.map AM)]) 1 2 Y Y Y Y ?_
 repeat'(first|exact prB|refine stC ?_|refine stU (fun h=>?_) fun h=>?_|fail)
 exact Ai Y (A1y Y)
def dn:Nat->Int
 |0=> -1
 |j+1=>j
theorem Arg (n:Nat):((n:Nat):Int)-1=dn n:=by
 cases n with
 |zero=>rfl
 |succ j=>simp[dn]
theorem Mm {next:Int}: ∀{l:List Seen} {i:Nat},BE next (l.drop i)=false->BE next l=false
 |l,0,h=>by simpa using h
 |[],i+1,h=>by simp[BE]at h
 |a::r,i+1,h=>by
  have:=Mm (l:=r) (i:=i) (by simpa using h)
  simp[BE,this]
theorem Ajm {next:Int} {l:List Seen} {i:Nat} {r:Seen} (hr:l[i]?=some r) (h:BE next (l.drop (i+1))=true) (hn: ¬Cn r):BE next l=false:=by
 refine Mm (i:=i) ?_
 rw[Db hr]
 simp[BE,hn]
theorem Aes {next:Int} {l:List Seen} {i:Nat} {r:Seen} (hr:l[i]?=some r) (h:BE next (l.drop (i+1))=true) (hn: ¬(Cn r/\r.seq<=Dl next (l.drop (i+1))-r.count)):BE next l=false:=by
 refine Mm (i:=i) ?_
 rw[Db hr]
 simp only[BE,h,hn,decide_false,Bool.false_and]
theorem EF (p:Prod) (hp:p.seen.length<=1000000):A17 269 [.agg (Ah (Al p))] [] (.t (.bool (C1 p))) []:=by
 refine ct0 Ag Tryz.func269 Y false Y Y ?_
 have hlm:(p.seen.map AM).length=p.seen.length:=List.length_map ..
 repeat'(first|exact prB|refine stC ?_|refine stU (fun h=>?_) fun h=>?_|refine stL ?_ (c:=GG _)|refine stL ?_ (c:=Dh _ _)|refine stL ?_ (c:=Anh p.seen)|fail)
 all_goals try(refine Ai Y (AP (WL ?_));unfold Cx;omega)
 have hb:Cx p:=by unfold Cx;omega
 have hb':=hb;unfold Cx at hb'
 refine Tr.weak (E:=[(2,.ref 4 0),(3,.ref 6 0),(28,.t (.func (.func 349) [] [.ptr [.slice .any 3 (p.seen.map AM)]]))]) (S:=[(6,.cells [.t (.int .i64 p.next)]),(4,.cells [.t (.bool false)]),(2,.cells (Ah (Al p)))]) ?_ (AE [] (Af Y Y (Af Y Y (Af Y Y Aj))) Y)
 refine Akw Ag Y Tryz.func349 Y Y (fun l=>?_)
 generalize hB:Blk.loop l .ready none _ _ _ _ _=B
 repeat'(first|exact prB|refine stC ?_|refine stU (fun h=>?_) fun h=>?_|fail)
 refine A3 (ι:=Nat) (fun i=>i<=p.seen.length/\BE p.next (p.seen.drop i)=true) (fun i=>[(0,.t (.func (.yield l) [] [])),(1,.t (.ptr [.slice .any 3 (p.seen.map AM)])),(3,.t (.int .i64 (dn i)))]) (fun i=>[(NI,B),(13,.cells [.t (.int .i64 (Dl p.next (p.seen.drop i)))]),(9,.cells [.t (.bool false)]),(5,.cells (Ah (Al p)))]) (fun i=>i) p.seen.length (by simp[BE]) ?_ ?_
 ·refine AE [] (Af Y Y (Af Y Y (Af Y ?_ Aj))) ?_
  ·rw[hlm,An Aa Aa,Arg]
  ·rw[List.drop_of_length_le (Nat.le_refl _)];rfl
 rintro i ⟨hi,hch⟩
 subst hB
 cases i with
 |zero=>
  rw[show dn 0= -1 from rfl]
  repeat'(first|exact prB|refine stC ?_|refine stU (fun h=>?_) fun h=>?_|fail)
  refine⟨.inl Y,Y,_,_,_,_,Y,Ac,Y,?_⟩
  repeat'(first|exact prB|refine stC ?_|refine stU (fun h=>?_) fun h=>?_|fail)
  exact Ai Y (AP (TA hb hch))
 |succ i=>
  have hr:p.seen[i]?=some p.seen[i]:=List.getElem?_eq_getElem Aa
  generalize p.seen[i]=r at hr
  rw[show dn (i+1)=(i:Int)from rfl]
  repeat'(first|exact prB|refine stC ?_|refine stU (fun h=>?_) fun h=>?_|refine Aku (b:=NI) Y Y Y Y Y Y Y Y Y Y ?_|refine⟨Y,_,Y,?_⟩|refine⟨_,_,_,_,Y,Y,_,Y,?_⟩|fail)
  all_goals try(refine⟨.inr Y,Y,_,_,_,_,Y,Ac,Y,?_⟩;exact Ai Y (AP (I7 (Ajm hr hch (by unfold Cn;omega)))))
  all_goals(
   have hbb:=Fx Aa Aa hch
   have hw:IntKind.i64.wrap (Dl p.next (p.seen.drop (i+1))-r.count)=Dl p.next (p.seen.drop (i+1))-r.count:=An Aa Aa)
  ·refine⟨.inr Y,Y,_,_,_,_,Y,Ac,Y,?_⟩
   exact Ai Y (AP (I7 (Aes hr hch (by unfold Cn;omega))))
  ·refine Ay i ⟨by omega,?_⟩ Aa [5] (Af Y Y (Af Y Y (Af Y ?_ Aj))) ?_
   ·rw[Db hr];simp only[BE,hch,Bool.and_true,decide_eq_true_eq];unfold Cn;omega
   ·rw[An Aa Aa,Arg];rfl
   ·rw[Db hr];rfl
end Go.Proofs.YtmohpcgmdheafaaGreatDoor
