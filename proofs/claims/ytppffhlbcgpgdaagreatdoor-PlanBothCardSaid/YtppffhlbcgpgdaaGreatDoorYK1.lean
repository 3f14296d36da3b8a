/- Lemmas toward the law; each names its conditions. -/
import Derived.Test.YtppffhlbcgpgdaaGreatDoorYJ4
set_option linter.all false
set_option maxRecDepth 100000
set_option maxHeartbeats 8000000
namespace Go.Proofs.YtppffhlbcgpgdaaGreatDoor
open Go.Am
attribute [local irreducible] Decidable.decide Tr A6 CG EJ
def Co (t:Nat) (what:Bs) (n:Int):T:=.iface t (.ptr [.str what,.int .i64 n])
def FW {α:Type} (f:α->Int) (l:List α):Bool:=decide ((l.map f).Pairwise (· < ·))
theorem LH {α:Type} {f:α->Int} {l:List α} (h:FW f l=true) {i j:Nat} {x y:α} (hx:l[i]?=some x) (hy:l[j]?=some y) (kD:i<j):f x<f y:=by
 have:=A5c h;rw[A74]at this;obtain⟨h1,rfl⟩:=ZH.1 hx;obtain⟨h2,rfl⟩:=ZH.1 hy;exact A52.1 this i j h1 h2 kD
theorem Ut {α:Type} {f:α->Int} {l:List α} {i:Nat} {x y:α} (hx:l[i]?=some x) (hy:l[i-1]?=some y) (hi:1<=i) (h:f x<=f y):FW f l=false:=by
 cases hr:FW f l with
 |false=>rfl
 |true=>have:=LH hr hy hx Aa;omega
theorem RE {α:Type} {f:α->Int} {l:List α} {i:Nat} {x y:α} (hx:l[i]?=some x) (hy:l[i-1]?=some y) (hi:1<=i) (h:f y<f x) (hr:FW f (l.take i)=true):FW f (l.take (i+1))=true:=by
 rw[AB hx];refine A32 ?_;rw[A38,A22];refine⟨A5c hr,Ac,λa ha b hb=>?_⟩;simp at hb;subst hb;obtain⟨z,hz,rfl⟩:=List.mem_map.1 ha;obtain⟨j,hj,rfl⟩:=A7d hz;have aO:(l.take i).length=i:=by simp;have:=(ZH.1 hx).1;omega
 rw[aO]at hj;have pN:(l.take i)[j]?=some (l.take i)[j]:=Kv _;by_cases e:j=i-1
 ·have:(l.take i)[j]?=some y:=by rw[Aoy,WU hj,e];exact hy
  rw[pN]at this;cases this;exact h
 ·have hyy:(l.take i)[i-1]?=some y:=by rw[Aoy,WU Aa];exact hy
  have:=LH hr pN hyy Aa;omega
theorem Us {α:Type} (f:α->Int) (l:List α) (h:l.length<=1):FW f l=true:=by
 match l,h with
 |[],_=>simp[FW]
 |[a],_=>simp[FW]
theorem VB (bH:Nat) (f:Row->Int) (l:List Row) (hl:l.length<=1000000000) (hf: ∀r,A3z bH [.agg (Af (Aw r))] [] (.t (.int .i64 (f r))) []):
  A3z 232 [.t (.slice .any 5 (l.map Aw)),.t (.func (.func bH) [] [])] [] (.t (.bool (FW f l))) []:=by
 refine yF Tryz.func232 ?_;have aQ:(l.map Aw).length=l.length:=Ts ..
 repeat'(first|exact Au|refine yC ?_ ?_|refine⟨λh=>?_⟩|refine B5 4 12 ?_|fail)
 refine AW (ι:=Nat) (λi=>1<=i/\i<=l.length+1/\FW f (l.take i)=true) (λi=>[(0,.t (.slice .any 5 (l.map Aw))),(1,.t (.func (.func bH) [] [])),(5,.t (.int .i64 i))]) (λ_=>[]) (λi=>l.length+1-i) 1 ⟨Ac,Ac,Us _ _ (by simp;omega)⟩ ?_ ?_
 ·exact Bb [] Aa6 Y
 rintro i ⟨h1,hi,gL⟩;by_cases aC:i<l.length
 ·have hr:l[i]?=some l[i]:=Kv aC;have hs:l[i-1]?=some (l[i-1]' Aa):=Kv _;generalize l[i]=r at hr;generalize l[i-1]' Aa=s at hs;have hw:IntKind.i64.wrap ((i:Int)-1)=((i-1:Nat):Int):=by rw[A1 Aa Aa];omega
  repeat'(first|exact Au|refine yC ?_ ?_|refine⟨λh=>?_⟩|refine B5 4 12 ?_|refine Mo (hf r) ?_|refine BZ (hf s) ?_|fail)
  ·refine Ah Y (BL ?_);rw[Ut hr hs h1 (by simpa using h)]
  ·refine AM (i+1) ⟨Aa,Aa,RE hr hs h1 Aa gL⟩ Aa [] (Ag Y Y (Ag Y Y (Ag Y ?_ A8))) Y;rw[A1 Aa Aa];rfl
 ·repeat'(first|exact Au|refine yC ?_ ?_|refine⟨λh=>?_⟩|refine B5 4 12 ?_|fail)
  refine Ah Y (BL ?_);rw[QQ Aa]at gL;exact gL.symm
theorem VC (bH:Nat) (f:Opn->Int) (l:List Opn) (hl:l.length<=1000000000) (hf: ∀r,A3z bH [.agg (Af (An r))] [] (.t (.int .i64 (f r))) []):
  A3z 234 [.t (.slice .any 3 (l.map An)),.t (.func (.func bH) [] [])] [] (.t (.bool (FW f l))) []:=by
 refine yF Tryz.func234 ?_;have aQ:(l.map An).length=l.length:=Ts ..
 repeat'(first|exact Au|refine yC ?_ ?_|refine⟨λh=>?_⟩|refine B5 4 12 ?_|fail)
 refine AW (ι:=Nat) (λi=>1<=i/\i<=l.length+1/\FW f (l.take i)=true) (λi=>[(0,.t (.slice .any 3 (l.map An))),(1,.t (.func (.func bH) [] [])),(5,.t (.int .i64 i))]) (λ_=>[]) (λi=>l.length+1-i) 1 ⟨Ac,Ac,Us _ _ (by simp;omega)⟩ ?_ ?_
 ·exact Bb [] Aa6 Y
 rintro i ⟨h1,hi,gL⟩;by_cases aC:i<l.length
 ·have hr:l[i]?=some l[i]:=Kv aC;have hs:l[i-1]?=some (l[i-1]' Aa):=Kv _;generalize l[i]=r at hr;generalize l[i-1]' Aa=s at hs;have hw:IntKind.i64.wrap ((i:Int)-1)=((i-1:Nat):Int):=by rw[A1 Aa Aa];omega
  repeat'(first|exact Au|refine yC ?_ ?_|refine⟨λh=>?_⟩|refine B5 4 12 ?_|refine Mo (hf r) ?_|refine BZ (hf s) ?_|fail)
  ·refine Ah Y (BL ?_);rw[Ut hr hs h1 (by simpa using h)]
  ·refine AM (i+1) ⟨Aa,Aa,RE hr hs h1 Aa gL⟩ Aa [] (Ag Y Y (Ag Y Y (Ag Y ?_ A8))) Y;rw[A1 Aa Aa];rfl
 ·repeat'(first|exact Au|refine yC ?_ ?_|refine⟨λh=>?_⟩|refine B5 4 12 ?_|fail)
  refine Ah Y (BL ?_);rw[QQ Aa]at gL;exact gL.symm
def Xu (p:Part) (r:Row):Bool:=decide (p.vR<=r.offset/\r.offset<p.fin)
def EU (p:Part):Bool:=decide (0<=p.vR/\p.vR<=p.fin/\p.fin<=1048576)&&(FW Row.offset p.rows&&(p.rows.all (Xu p)&&(FW Opn.lO p.kI&& !p.kI.any (λo=>o.gG.isEmpty))))
def Azx:Bs:=[97,32,112,97,114,116,32,116,104,97,116,32,99,97,110,110,111,116,32,98,101,32,114,101,97,100]
def PC (p:Part):T:=if EU p=true then .nilIface else Co 220 Azx 2
theorem Amw {p:Part} {a z:Row} (hr:FW Row.offset p.rows=true) (ha:p.rows[0]?=some a) (hz:p.rows[p.rows.length-1]?=some z):p.rows.all (Xu p)=decide (p.vR<=a.offset/\z.offset<p.fin):=by
 rw[A5f,A21];simp only[Xu,Uj];constructor
 ·intro h;exact⟨(h a (Apj ha)).1,(h z (Apj hz)).2⟩
 ·intro h r hm;obtain⟨i,hi⟩:=A7o hm;have aC:=(ZH.1 hi).1;constructor
  ·by_cases e:i=0
   ·subst e;rw[ha]at hi;cases hi;exact h.1
   ·have:=LH hr ha hi Aa;omega
  ·by_cases e:i=p.rows.length-1
   ·subst e;rw[hz]at hi;cases hi;exact h.2
   ·have:=LH hr hi hz Aa;omega
theorem Aj7 (r:Row):A3z 233 [.agg (Af (Aw r))] [] (.t (.int .i64 r.offset)) []:=by
 refine yF Tryz.func233 ?_
 repeat'(first|exact Au|refine yC ?_ ?_|refine⟨λh=>?_⟩|fail)
 exact Ah Y (A3l _)
theorem Aj6 (o:Opn):A3z 235 [.agg (Af (An o))] [] (.t (.int .i64 o.lO)) []:=by
 refine yF Tryz.func235 ?_
 repeat'(first|exact Au|refine yC ?_ ?_|refine⟨λh=>?_⟩|fail)
 exact Ah Y (A3l _)
theorem Aj8 (o:Opn):A3z 237 [.agg (Af (An o))] [] (.t (.bool o.gG.isEmpty)) []:=by
 refine yF Tryz.func237 ?_
 repeat'(first|exact Au|refine yC ?_ ?_|refine⟨λh=>?_⟩|fail)
 refine Ah Y (BL ?_);cases o.gG<;>simp;omega
theorem RM (p:Part) (h1:p.rows.length<=1000000000) (h2:p.kI.length<=1000000000):A3z 189 [.agg (Af (Ax p))] [] (.t (PC p)) []:=by
 have c1:=VB 233 Row.offset p.rows h1 Aj7;have c2:=VC 235 Opn.lO p.kI h2 Aj6;have c3:=SO 237 [] (λo=>o.gG.isEmpty) p.kI h2 Aj8 Y;have aQ:(p.rows.map Aw).length=p.rows.length:=Ts ..;refine yF Tryz.func189 ?_;by_cases aC:0<p.rows.length
 ·have ha:p.rows[0]?=some p.rows[0]:=Kv _;have hz:p.rows[p.rows.length-1]?=some (p.rows[p.rows.length-1]' Aa):=Kv _;have he:=λhr=>Amw hr ha hz;generalize p.rows[0]=a at ha he;generalize p.rows[p.rows.length-1]' Aa=z at hz he;have hw:IntKind.i64.wrap (((p.rows.map Aw).length:Int)-1)=((p.rows.length-1:Nat):Int):=by rw[aQ,A1 Aa Aa];omega
  have kE:EU p=true↔(0<=p.vR/\p.vR<=p.fin/\p.fin<=1048576)/\FW Row.offset p.rows=true/\(p.vR<=a.offset/\z.offset<p.fin)/\FW Opn.lO p.kI=true/\ ¬p.kI.any (λo=>o.gG.isEmpty)=true:=by
   simp only[EU,Qp,Uj,A5y,A8a];constructor
   ·rintro⟨q1,q2,q3,q4,q5⟩;rw[he q2,Uj]at q3;exact⟨q1,q2,q3,q4,q5⟩
   ·rintro⟨q1,q2,q3,q4,q5⟩;exact⟨q1,q2,by rw[he q2,Uj];exact q3,q4,q5⟩
  repeat'(first|exact Au|refine yC ?_ ?_|refine⟨λh=>?_⟩|refine B5 4 21 ?_|fail)
  all_goals refine Ah Y (A3m ?_)
  all_goals first|(rw[PC,WU (kE.2 ⟨Aa,by first|assumption|exact Ya Ad,Aa,by first|assumption|exact Ya Ad,by first|assumption|exact Ya Ad⟩)])|(rw[PC,Ug (λhc=>by obtain⟨q1,q2,q3,q4,q5⟩:=kE.1 hc;first|omega|contradiction)];rfl)
 ·have hn:p.rows=[]:=Aq1 Aa
  have kE:EU p=true↔(0<=p.vR/\p.vR<=p.fin/\p.fin<=1048576)/\FW Row.offset p.rows=true/\FW Opn.lO p.kI=true/\ ¬p.kI.any (λo=>o.gG.isEmpty)=true:=by
   simp only[EU,Qp,Uj,A5y,A8a];have ha:p.rows.all (Xu p)=true:=by rw[hn];rfl
   rw[ha];simp
  repeat'(first|exact Au|refine yC ?_ ?_|refine⟨λh=>?_⟩|refine B5 4 21 ?_|fail)
  all_goals refine Ah Y (A3m ?_)
  all_goals first|(rw[PC,WU (kE.2 ⟨Aa,by first|assumption|exact Ya Ad,by first|assumption|exact Ya Ad,by first|assumption|exact Ya Ad⟩)])|(rw[PC,Ug (λhc=>by obtain⟨q1,q2,q4,q5⟩:=kE.1 hc;first|omega|contradiction)];rfl)
theorem Asb (l:List Seen):A3z 249 [.t (.slice .any 3 (l.map AR))] [] (.t (.func (.func 284) [] [.ptr [.slice .any 3 (l.map AR)]])) []:=by
 refine yF Tryz.func249 ?_;refine HA ?_;refine Jx Ai Y Y ?_
 repeat'(first|exact Au|refine yA ?_ ?_|refine⟨λh=>?_⟩|fail)
 refine A3q (cs:=[.slice .any 3 (l.map AR)]) 1 2 Y Y Y Y ?_
 repeat'(first|exact Au|refine yC ?_ ?_|refine⟨λh=>?_⟩|fail)
 exact Ah Y (A3m Y)
def dn:Nat->Int
 |0=> -1
 |j+1=>j
theorem As6 (n:Nat):((n:Nat):Int)-1=dn n:=by
 cases n with
 |zero=>rfl
 |succ j=>simp[dn]
theorem K5 {next:Int}: ∀{l:List Seen} {i:Nat},BQ next (l.drop i)=false->BQ next l=false
 |l,0,h=>by simpa using h
 |[],i+1,h=>by simp[BQ]at h
 |a::r,i+1,h=>by
  have:=K5 (l:=r) (i:=i) (by simpa using h);simp[BQ,this]
theorem Anw {next:Int} {l:List Seen} {i:Nat} {r:Seen} (hr:l[i]?=some r) (h:BQ next (l.drop (i+1))=true) (hn: ¬EY r):BQ next l=false:=by
 refine K5 (i:=i) ?_;rw[CL hr];simp[BQ,hn]
theorem Ahq {next:Int} {l:List Seen} {i:Nat} {r:Seen} (hr:l[i]?=some r) (h:BQ next (l.drop (i+1))=true) (hn: ¬(EY r/\r.seq<=Fg next (l.drop (i+1))-r.count)):BQ next l=false:=by
 refine K5 (i:=i) ?_;rw[CL hr];simp only[BQ,h,hn,A64,Bool.false_and]
theorem Gt (p:Prod) (hp:p.s9.length<=1000000):A3z 201 [.agg (Af (Ar p))] [] (.t (.bool (CW p))) []:=by
 refine yF Tryz.func201 ?_;have aQ:(p.s9.map AR).length=p.s9.length:=Ts ..
 repeat'(first|exact Au|refine yC ?_ ?_|refine⟨λh=>?_⟩|refine Ab0 ?_ (c:=HY _)|refine Ab0 ?_ (c:=DE _ _)|refine BZ (Asb p.s9) ?_|fail)
 all_goals try(refine Ah Y (BL (Alg ?_));unfold Dt;omega)
 have hb:Dt p:=by unfold Dt;omega
 have cN:=hb;unfold Dt at cN;refine Tr.weak (E:=[(2,.ref 4 0),(3,.ref 6 0),(28,.t (.func (.func 284) [] [.ptr [.slice .any 3 (p.s9.map AR)]]))]) (S:=[(6,.cells [.t (.int .i64 p.next)]),(4,.cells [.t (.bool false)]),(2,.cells (Af (Ar p)))]) ?_ (Bb [] (Ag Y Y (Ag Y Y (Ag Y Y A8))) Y);refine Ac4 Ai Y Tryz.func284 Y Y (λl=>?_);generalize hB:Blk.loop l .ready none _ _ _ _ _=B
 repeat'(first|exact Au|refine yC ?_ ?_|refine⟨λh=>?_⟩|fail)
 refine AW (ι:=Nat) (λi=>i<=p.s9.length/\BQ p.next (p.s9.drop i)=true) (λi=>[(0,.t (.func (.yield l) [] [])),(1,.t (.ptr [.slice .any 3 (p.s9.map AR)])),(3,.t (.int .i64 (dn i)))]) (λi=>[(KM,B),(13,.cells [.t (.int .i64 (Fg p.next (p.s9.drop i)))]),(9,.cells [.t (.bool false)]),(5,.cells (Af (Ar p)))]) (λi=>i) p.s9.length (by simp[BQ]) ?_ ?_
 ·refine Bb [] (Ag Y Y (Ag Y Y (Ag Y ?_ A8))) ?_
  ·rw[aQ,A1 Aa Aa,As6]
  ·rw[A6n (WW _)];rfl
 rintro i ⟨hi,PZ⟩;subst hB
 cases i with
 |zero=>
  rw[show dn 0= -1 from rfl]
  repeat'(first|exact Au|refine yC ?_ ?_|refine⟨λh=>?_⟩|fail)
  refine⟨.inl Y,Y,_,_,_,_,Y,Ac,Y,?_⟩
  repeat'(first|exact Au|refine yC ?_ ?_|refine⟨λh=>?_⟩|fail)
  exact Ah Y (BL (Agu hb PZ))
 |succ i=>
  have hr:p.s9[i]?=some p.s9[i]:=Kv Aa;generalize p.s9[i]=r at hr;rw[show dn (i+1)=(i:Int)from rfl]
  repeat'(first|exact Au|refine yC ?_ ?_|refine⟨λh=>?_⟩|refine Ac2 (b:=KM) Y Y Y Y Y Y Y Y Y Y ?_|refine⟨Y,_,Y,?_⟩|refine⟨_,_,_,_,Y,Y,_,Y,?_⟩|fail)
  all_goals try(refine⟨.inr Y,Y,_,_,_,_,Y,Ac,Y,?_⟩;exact Ah Y (BL (Yp (Anw hr PZ (by unfold EY;omega)))))
  all_goals(
   have jB:=K6 Aa Aa PZ
   have hw:IntKind.i64.wrap (Fg p.next (p.s9.drop (i+1))-r.count)=Fg p.next (p.s9.drop (i+1))-r.count:=A1 Aa Aa)
  ·refine⟨.inr Y,Y,_,_,_,_,Y,Ac,Y,?_⟩;exact Ah Y (BL (Yp (Ahq hr PZ (by unfold EY;omega))))
  ·refine AM i ⟨Aa,?_⟩ Aa [5] (Ag Y Y (Ag Y Y (Ag Y ?_ A8))) ?_
   ·rw[CL hr];simp only[BQ,PZ,A78,Uj];unfold EY;omega
   ·rw[A1 Aa Aa,As6];rfl
   ·rw[CL hr];rfl
