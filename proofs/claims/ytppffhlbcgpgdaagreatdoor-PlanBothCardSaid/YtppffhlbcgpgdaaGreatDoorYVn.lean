/- The law PlanBoth: for every input it answers true. -/
import Derived.Test.YtppffhlbcgpgdaaGreatDoorYVH
import Derived.Test.YtppffhlbcgpgdaaGreatDoorYLM
set_option linter.all false
set_option maxRecDepth 100000
set_option maxHeartbeats 8000000
namespace Go.Proofs.YtppffhlbcgpgdaaGreatDoor
open Go.Am
attribute [local irreducible] Decidable.decide Tr A6 CG EJ
theorem Bf (r:Req):A3z 17 [.agg (Af (A7 r))] [] (.t (.bool (Bd r.kind))) []:=by
 refine yF Tryz.func17 ?_
 repeat'(first|exact Au|refine yC ?_ ?_|refine⟨λh=>?_⟩|fail)
 all_goals first
  |(refine Ah Y (BL ?_);unfold Bd;symm;first|exact A32 Aa|exact A44 Aa)
  |(refine Ah Y (BL ?_);show(decide _)=_;unfold Bd;symm;exact A7c.2 Aa)
  |(refine Ah Y (BL ?_);show(!decide _)=_;unfold Bd;symm;rw[<-decide_not];exact A7c.2 Aa)
theorem Qm {l m:List Row} (h:l.map z0=m.map z0) {k:Nat} {u v:Row} (h1:l[k]?=some u) (h2:m[k]?=some v):u.lO=v.lO/\u.seq=v.seq/\u.key=v.key/\u.value=v.value:=by
 have e:(l.map z0)[k]?=(m.map z0)[k]?:=by rw[h]
 rw[A42,A42,h1,h2]at e;simp only[A4g,A26,z0,Row.mk.injEq]at e;obtain⟨_,e1,e2,e3,e4⟩:=e;exact⟨e1,e2,e3,e4⟩
set_option maxHeartbeats 16000000 in
theorem Eb {n:Nat} {a b:Image} (h:BothI n a b):A3z 18 [.agg (Af (Ao a)),.agg (Af (Ao b))] [] (.t (.bool true)) []:=by
 have cS:=h.ra.vT.vS;have c0:=A0x a.m.t0 a.m.t0 cS.t0;have c1:=A0x a.m.t1 a.m.t1 cS.t1;have c2:=A0x a.m.t2 a.m.t2 cS.t2;rw[A32 Y]at c0 c1 c2
 have hP: ∀q,(q=0\/q=1\/q=2)->(A5 a q).rows.map z0=(A5 b q).rows.map z0/\(A5 a q).kI=(A5 b q).kI/\AU (A5 a q):=λq hq=>⟨(h.ar q hq).rows,(h.ar q hq).kI,(h.ra.vT.tq q hq).vS⟩
 have hm:=h.m;clear h cS;have dO:IntKind.i64.wrap (0+1)=1:=A1 Aa Aa;have dD:IntKind.i64.wrap (1+1)=2:=A1 Aa Aa;have dZ:IntKind.i64.wrap (2+1)=3:=A1 Aa Aa;refine yF Tryz.func18 ?_
 repeat'(first|exact Au|refine yC ?_ ?_|refine⟨λh=>?_⟩|refine BA 4 11 ?_|refine BA 10 13 ?_|refine BA 18 10 ?_|fail)
 refine AW (ι:=Nat) (λk=>k<=3) (λk=>[(2,.ref 4 0),(3,.ref 6 0),(5,.t (.int .i64 k))]) (λ_=>[(6,.cells (Af (Ao b))),(4,.cells (Af (Ao a)))]) (λk=>3-k) 0 Aa ?_ ?_
 ·exact Bb [] Aa6 Y
 rintro k hk;by_cases aC:k<3
 ·obtain⟨p,hp⟩: ∃p,p=A5 a k:=⟨_,Y⟩
  obtain⟨P,hPp⟩: ∃P,P=A5 b k:=⟨_,Y⟩
  obtain⟨hz,ho,hs⟩:=hP k Aa;rw[<-hp,<-hPp]at hz ho;rw[<-hp]at hs;have aO:p.rows.length=P.rows.length:=by have:=A5s List.length hz;simpa using this
  have j9:(p.rows.map Aw).length=p.rows.length:=Ts ..;have sK:(P.rows.map Aw).length=P.rows.length:=Ts ..;have cs:=Asd p.kI hs.2.1 hs.2.2.1;have cC:=hs.1;have cs2:A3z 40 [.t (.slice .any 3 (p.kI.map An)),.t (.slice .any 3 (P.kI.map An))] [] (.t (.bool true)) []:=by rw[<-ho];exact cs
  clear cs hP;have d6:=cC;have pH:=j9;have hl4:=sK;have hlen3:=aO;rcases(show k=0\/k=1\/k=2 from Aa)with qQ|qQ|qQ
  all_goals
   rw[qQ]at hp hPp⊢;simp[A5]at hp hPp;rw[hp]at cs2 aO j9 hz;rw[hPp]at cs2 aO sK hz;rw[hp]at cC
   repeat'(first|exact Au|refine yC ?_ ?_|refine⟨λh=>?_⟩|refine BA 10 13 ?_|refine BA 18 10 ?_|refine D4 4 11 [(10,12),(11,14)] [0,0,3,7,0,0,48,112,0,0,783,2047] ?_|fail)
   all_goals try(exfalso;simp_all;done)
   all_goals try(exfalso;omega)
   refine AW (ι:=Nat) (λj=>j<=p.rows.length) (λj=>[(2,.ref 4 0),(3,.ref 6 0),(5,.t (.int .i64 k)),(6,.ref 12 0),(7,.ref 14 0),(8,.t (.int .i64 j))]) (λ_=>[(14,.cells (Af (Ax P))),(12,.cells (Af (Ax p))),(6,.cells (Af (Ao b))),(4,.cells (Af (Ao a)))]) (λj=>p.rows.length-j) 0 Aa ?_ ?_
   ·exact Bb [] (Ag Y Y (Ag Y Y (Ag Y (by rw[qQ]) Aa6))) (by rw[hp,hPp];rfl)
   rintro j hj;by_cases eR:j<p.rows.length
   ·have hr:p.rows[j]?=some p.rows[j]:=Kv eR;have hR:P.rows[j]?=some (P.rows[j]'(by rw[hPp,<-aO,<-hp];exact eR)):=Kv _;generalize p.rows[j]=u at hr;generalize P.rows[j]'(by rw[hPp,<-aO,<-hp];exact eR)=v at hR;obtain⟨e1,e2,e3,e4⟩:=Qm (by rw[hp,hPp];exact hz) hr hR;obtain⟨u1,u2,u3,u4,u5⟩:=u;obtain⟨v1,v2,v3,v4,v5⟩:=v;simp only at e1 e2 e3 e4;subst e1;subst e2;subst e3;subst e4
    repeat'(first|exact Au|refine yC ?_ ?_|refine⟨λh=>?_⟩|refine BA 4 11 ?_|refine BA 18 10 ?_|refine D4 10 13 [(12,18),(13,20)] [0,1,0,7,15,0,32,0,224,480,0,0,3103,8191] ?_|fail)
    all_goals first
     |(refine AM (j+1) eR Aa [9,10] (Ag Y Y (Ag Y Y (Ag Y Y (Ag Y Y (Ag Y Y (Ag Y (by rw[A1 Aa Aa];rfl) A8)))))) Y)
     |(exfalso;simp_all;done)
     |(exfalso;omega)
   ·rw[qQ]
    repeat'(first|exact Au|rw[dO]|rw[dD]|rw[dZ]|refine yC ?_ ?_|refine⟨λh=>?_⟩|refine BA 4 11 ?_|refine BA 10 13 ?_|refine BA 18 10 ?_|fail)
    all_goals first
     |(refine AM (k+1) Aa Aa [6,7] (Ag Y Y (Ag Y Y (Ag Y ?_ A8))) Y
       first|(rw[A1 Aa Aa,qQ];rfl)|(rw[qQ];rfl))
     |(exfalso;omega)
 ·repeat'(first|exact Au|refine yC ?_ ?_|refine⟨λh=>?_⟩|refine BA 4 11 ?_|refine BA 10 13 ?_|refine BA 18 10 ?_|fail)
  all_goals try(exfalso;omega)
  refine AW (ι:=Nat) (λk=>k<=3) (λk=>[(2,.ref 4 0),(3,.ref 6 0),(11,.t (.int .i64 k))]) (λ_=>[(6,.cells (Af (Ao b))),(4,.cells (Af (Ao a)))]) (λk=>3-k) 0 Aa ?_ ?_
  ·exact Bb [] Aa6 Y
  rintro t ht;obtain⟨a0,a1,a2,a3,am⟩:=a;obtain⟨b0,b1,b2,b3,bm⟩:=b;simp only at hm;subst hm;by_cases dX:t<3
  ·rcases(show t=0\/t=1\/t=2 from Aa)with lD|lD|lD
   all_goals
    rw[lD]
    repeat'(first|exact Au|rw[dO]|rw[dD]|rw[dZ]|refine yC ?_ ?_|refine⟨λh=>?_⟩|refine BA 4 11 ?_|refine BA 10 13 ?_|refine BA 18 10 ?_|fail)
    all_goals first
     |(refine AM (t+1) Aa Aa [] (Ag Y Y (Ag Y Y (Ag Y ?_ A8))) Y
       first|(rw[A1 Aa Aa,lD];rfl)|(rw[lD];rfl))
     |(exfalso;simp_all;done)
     |(exfalso;omega)
  ·repeat'(first|exact Au|refine yC ?_ ?_|refine⟨λh=>?_⟩|refine BA 4 11 ?_|refine BA 10 13 ?_|refine BA 18 10 ?_|fail)
   all_goals first
    |(refine Ah Y (BL ?_);simp;done)
    |(exfalso;omega)
set_option maxHeartbeats 40000000 in
theorem Pr (cw:A3z 9 [] [] (.t (.bool true)) []) (l:List Req) (r:Req) (u9:Bd r.kind=true) (A B:Image) (L M:List Step) (x y:Reply) (e:Int) (cA:A3z 10 [.t (.int .i8 0),.t (.slice .any 15 (l.map A7))] [] (.tuple [.agg (Af (Ao A)),.t (.bool true)]) []) (cB:A3z 10 [.t (.int .i8 1),.t (.slice .any 15 (l.map A7))] [] (.tuple [.agg (Af (Ao B)),.t (.bool true)]) []) (pA:A3z 11 [.agg (Af (Ao A)),.agg (Af (A7 r))] [] (.tuple [.t (.slice .any 48 (L.map Bx)),.agg (Af (Bw x)),.t (.int .i64 e)]) []) (pB:A3z 11 [.agg (Af (Ao B)),.agg (Af (A7 r))] [] (.tuple [.t (.slice .any 48 (M.map Bx)),.agg (Af (Bw y)),.t (.int .i64 e)]) []) (hl:l.length<=100) (aI: ∀r∈l,Bd r.kind=true) (hy:RepEq x y) (h4:L.length<=4) (aQ:L.length=M.length) (cI:A3z 18 [.agg (Af (Ao A)),.agg (Af (Ao B))] [] (.t (.bool true)) []) (hS: ∀(k:Nat) (s t:Step),L[k]?=some s->M[k]?=some t->A3z 18 [.agg (Af (Ao s.i)),.agg (Af (Ao t.i))] [] (.t (.bool true)) []):A3z 5 [.t (.slice .any 15 (l.map A7)),.agg (Af (A7 r))] [] (.t (.bool true)) []:=by
 have oB:(l.map A7).length=l.length:=Ts ..;have hL1:(L.map Bx).length=L.length:=Ts ..;have hM1:(M.map Bx).length=M.length:=Ts ..;have cbl:=Bf r;rw[u9]at cbl;obtain⟨y1,y2,y3,y4⟩:=hy;obtain⟨x1,x2,x3,x4,x5,x6⟩:=x;obtain⟨z1,z2,z3,z4,z5,z6⟩:=y;simp only at y1 y2 y3 y4;subst y1;subst y2;subst y3;have jE:decide (x5<0)=decide (z5<0):=A7c.2 y4;refine yF Tryz.func5 ?_
 repeat'(first|exact Au|refine yC ?_ ?_|refine⟨λh=>?_⟩|refine BA 19 10 ?_|refine JO Ai [] [] Y Y Y Y Y (Aoq l) Y (λ_ _=>rfl) (λ_ _=>rfl) (λ_ _=>rfl) (λj hj=>?_)|refine JO Ai [] [] Y Y Y Y Y (Aop r) Y (λ_ _=>rfl) (λ_ _=>rfl) (λ_ _=>rfl) (λj hj=>?_)|fail)
 all_goals try(exact Ah Y (A3m Y))
 all_goals try(exfalso;simp_all;done)
 all_goals
  refine AW (ι:=Nat) (λk=>k<=l.length) (λk=>[(0,.t (.slice .any 15 (l.map A7))),(3,.ref 6 0),(5,.t (.int .i64 k))]) (λ_=>[(6,.cells (Af (A7 r)))]) (λk=>l.length-k) 0 Aa ?_ ?_
  ·exact Bb [] Aa6 Y
  rintro k hk;by_cases aC:k<l.length
  ·have hr:l[k]?=some l[k]:=Kv aC;have hrb:=aI l[k] (Agz aC);generalize l[k]=q at hr hrb;have cq:=Bf q;rw[hrb]at cq
   repeat'(first|exact Au|refine yC ?_ ?_|refine⟨λh=>?_⟩|refine BA 19 10 ?_|fail)
   all_goals first
    |(refine AM (k+1) aC Aa [] (Ag Y Y (Ag Y Y (Ag Y (by rw[A1 Aa Aa];rfl) A8))) Y)
    |(exfalso;simp_all;done)
    |(exfalso;omega)
  ·repeat'(first|exact Au|refine yC ?_ ?_|refine⟨λh=>?_⟩|refine BA 19 10 ?_|fail)
   all_goals try(exfalso;simp_all;done)
   all_goals try(exfalso;omega)
   all_goals
    refine AW (ι:=Nat) (λk=>k<=L.length) (λk=>[(6,.ref 12 0),(8,.ref 16 0),(10,.t (.slice .any 48 (L.map Bx))),(13,.t (.slice .any 48 (M.map Bx))),(16,.t (.int .i64 k))]) (λ_=>[(16,.cells (Af (Ao B))),(12,.cells (Af (Ao A)))]) (λk=>L.length-k) 0 Aa ?_ ?_
    ·exact Bb [3,11,14] Aa6 Y
    rintro m hm;by_cases nC:m<L.length
    ·have hr1:L[m]?=some L[m]:=Kv nC;have gV:M[m]?=some (M[m]' Aa):=Kv _;generalize L[m]=s at hr1;generalize M[m]' Aa=t at gV;have ct:=hS m s t hr1 gV
     repeat'(first|exact Au|refine yC ?_ ?_|refine⟨λh=>?_⟩|refine BA 19 10 ?_|refine Mo ct ?_|refine BZ ct ?_|fail)
     all_goals first
      |(refine AM (m+1) nC Aa [] (Ag Y Y (Ag Y Y (Ag Y Y (Ag Y Y (Ag Y (by rw[A1 Aa Aa];rfl) A8))))) Y)
      |(exfalso;simp_all;done)
      |(exfalso;omega)
    ·repeat'(first|exact Au|refine yC ?_ ?_|refine⟨λh=>?_⟩|refine BA 19 10 ?_|fail)
     all_goals first
      |exact Ah Y (A3m Y)
      |(exfalso;simp_all;done)
      |(exfalso;omega)
set_option maxHeartbeats 16000000 in
theorem Qg (l:List Req) (r:Req):A3z 5 [.t (.slice .any 15 (l.map A7)),.agg (Af (A7 r))] [] (.t (.bool true)) []:=by
 have cw:=Av2;by_cases hg:((l.length<=100/\ ∀r∈l,r.b.rZ.length<=60)/\r.b.rZ.length<=60)/\Bd r.kind=true/\ ∀r∈l,Bd r.kind=true
 ·obtain⟨⟨⟨hl,oB⟩,hr60⟩,u9,aI⟩:=hg;have hB:=Oa l Aa aI;have cA:=Avz 0 (.inl Y) l hl oB;have cB:=Avz 1 (.inr Y) l hl oB;have pA:=Aqo hB.ra Aa r Aa;have pB:=Aqo hB.rb Aa r Aa;have hF:=Gs hB Aa u9;have h4:=(A2u hB.ra Aa r).many;have cI:=Eb hB;rw[<-hF.e]at pB;exact Pr cw l r u9 _ _ _ _ _ _ _ cA cB pA pB hl aI hF.y h4 hF.l.len cI λk s t h1 h2=>Eb (hF.l.at_ k s t h1 h2)
 ·have oB:(l.map A7).length=l.length:=Ts ..;have cbl:=Bf r;refine yF Tryz.func5 ?_
  repeat'(first|exact Au|refine yC ?_ ?_|refine⟨λh=>?_⟩|refine BA 19 10 ?_|refine JO Ai [] [] Y Y Y Y Y (Aoq l) Y (λ_ _=>rfl) (λ_ _=>rfl) (λ_ _=>rfl) (λj hj=>?_)|refine JO Ai [] [] Y Y Y Y Y (Aop r) Y (λ_ _=>rfl) (λ_ _=>rfl) (λ_ _=>rfl) (λj hj=>?_)|fail)
  all_goals try(exact Ah Y (A3m Y))
  all_goals try(exfalso;simp_all;done)
  all_goals
   have o7:l.length<=100:=by simp_all
   refine AW (ι:=Nat) (λk=>k<=l.length/\ ∀x∈l.take k,Bd x.kind=true) (λk=>[(0,.t (.slice .any 15 (l.map A7))),(3,.ref 6 0),(5,.t (.int .i64 k))]) (λ_=>[(6,.cells (Af (A7 r)))]) (λk=>l.length-k) 0 Ac ?_ ?_
   ·exact Bb [] Aa6 Y
   rintro k ⟨hk,iH⟩;by_cases aC:k<l.length
   ·have hr:l[k]?=some l[k]:=Kv aC;generalize l[k]=q at hr;have cq:=Bf q
    repeat'(first|exact Au|refine yC ?_ ?_|refine⟨λh=>?_⟩|refine BA 19 10 ?_|fail)
    all_goals first
     |exact Ah Y (A3m Y)
     |(refine AM (k+1) ⟨aC,λu hu=>?_⟩ Aa [] (Ag Y Y (Ag Y Y (Ag Y (by rw[A1 Aa Aa];rfl) A8))) Y
       rw[AB hr]at hu;rcases A25.1 hu with hu|hu
       ·exact iH u hu
       ·simp at hu;subst hu;simp_all)
     |(exfalso;omega)
   ·exfalso;rw[QQ Aa]at iH
    simp_all
