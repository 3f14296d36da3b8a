/- Lemmas toward the law; each names its conditions. -/
import Derived.Test.YtppffhlbcgpgdaaGreatDoorYKT
set_option linter.all false
set_option maxRecDepth 100000
set_option maxHeartbeats 8000000
namespace Go.Proofs.YtppffhlbcgpgdaaGreatDoor
open Go.Am
attribute [local irreducible] Decidable.decide Tr A6 CG EJ
theorem Aoq (l:List Req):Hs Tryz.prog 7 [.t (.slice .any 15 (l.map A7))] [] (λx:Bool=>x=false->l.length<=100/\ ∀r∈l,r.b.rZ.length<=60) (λx=>.t (.bool x)) (λ_=>[]):=by
 have aQ:(l.map A7).length=l.length:=Ts ..;refine Dz Ai Tryz.func7 Y Y ?_
 repeat'(first|exact Au|refine yC ?_ ?_|refine⟨λh=>?_⟩|fail)
 refine AW (ι:=Nat) (λi=>i<=l.length/\ ∀t∈l.take i,t.b.rZ.length<=60) (λi=>[(0,.t (.slice .any 15 (l.map A7))),(3,.t (.int .i64 i))]) (λ_=>[]) (λi=>l.length-i) 0 Ac ?_ ?_
 ·exact Bb [] Aa6 Y
 rintro i ⟨hi,aI⟩;by_cases aC:i<l.length
 ·have hr:l[i]?=some l[i]:=Kv aC;generalize l[i]=t at hr
  repeat'(first|exact Au|refine yC ?_ ?_|refine⟨λh=>?_⟩|refine JO Ai [] [] Y Y Y Y Y (Aop t) Y (λ_ _=>rfl) (λ_ _=>rfl) (λ_ _=>rfl) (λj hj=>?_)|fail)
  all_goals first
   |(refine Ir true (λhx=>by cases hx) [] rfl rfl rfl (BL (by simp;omega)))
   |exact Ir true (λhx=>by cases hx) [] rfl rfl rfl (A3l _)
   |(refine AM (i+1) ⟨aC,λu hu=>?_⟩ Aa [] (Ag Y Y (Ag Y (by rw[A1 Aa Aa];rfl) A8)) Y
     rw[AB hr]at hu;rcases A25.1 hu with hu|hu
     ·exact aI u hu
     ·simp at hu;subst hu;exact hj (by simp_all))
 ·rw[QQ Aa]at aI
  repeat'(first|exact Au|refine yC ?_ ?_|refine⟨λh=>?_⟩|fail)
  all_goals first
   |(refine Ir _ (λhx=>⟨?_,aI⟩) [] Y Y Y (A3l _);simp at hx;omega)
def Aj2:List T:=[.int .i64 0,.int .i8 0,.int .i64 0,.int .i64 0,.int .i64 0,.int .i64 0,.slice .nil 0 [],.slice .nil 0 [],.int .i64 0,.int .i8 0,.int .i64 0,.int .i64 0,.int .i64 0,.int .i64 0,.slice .nil 0 [],.slice .nil 0 [],.int .i64 0,.int .i8 0,.int .i64 0,.int .i64 0,.int .i64 0,.int .i64 0,.slice .nil 0 [],.slice .nil 0 [],.int .i64 0,.int .i64 (-1),.int .i64 (-1),.int .i64 (-1),.int .i64 (-1),.int .i64 (-1),.int .i64 (-1)]
theorem Ajx:A3z 27 [] [] (.agg (Af Aj2)) []:=by
 have dO:IntKind.i64.wrap (0+1)=1:=A1 Aa Aa;have dD:IntKind.i64.wrap (1+1)=2:=A1 Aa Aa;have dZ:IntKind.i64.wrap (2+1)=3:=A1 Aa Aa;refine yF Tryz.func27 ?_
 repeat'(first|exact Au|rw[dO]|rw[dD]|rw[dZ]|refine yC ?_ ?_|refine⟨λh=>?_⟩|refine B6 4 ?_|refine BH ?_|fail)
 all_goals first
  |exact Ah Y (A3m Y)
theorem Ajy:Aq (.agg (Af Aj2)) (.agg (Af (Az Aor))):=by
 refine AC ?_;exact AA
theorem Ct.out {P:Program} {f:Nat} {xs:List AV} {σ σ1:St} {r r':AV} (h:Ct P f xs σ r σ1) (hs:Aq r r'):Ct P f xs σ r' σ1:=
 ⟨h.1,λvs w g hr hi=>(h.2 vs w g hr hi).mono λe w' ⟨v,g',he,hx,hv,dC⟩=>⟨v,g',he,hx,hs _ _ _ hv,dC⟩⟩
theorem Aqz:A3z 27 [] [] (.agg (Af (Az Aor))) []:=Ct.out Ajx Ajy
theorem Pm (c:Coord) (q:Int) (hc:c.parts=[]):A3z 24 [.agg (Af (AN c)),.t (.int .i64 q)] [] (.t (.bool false)) []:=by
 obtain⟨c1,c2,c3,c4,c5,c6,c7,c8⟩:=c;simp only at hc;subst hc;refine yF Tryz.func24 ?_
 repeat'(first|exact Au|refine yC ?_ ?_|refine⟨λh=>?_⟩|refine B6 2 ?_|refine BH ?_|fail)
 all_goals first
  |exact Ah Y (BL Ac)
  |(exfalso;simp_all;done)
theorem Lb (c:Coord) (oC:Bool):A3z 25 [.agg (Af (AN c)),.t (.bool oC)] [] (.t (.bool (MU c oC))) []:=by
 refine yF Tryz.func25 ?_;cases oC
 all_goals
  repeat'(first|exact Au|refine yC ?_ ?_|refine⟨λh=>?_⟩|fail)
  all_goals first
   |exact Ah Y (BL Y)
   |(refine Ah Y (BL ?_);simp_all[MU];done)
theorem A2v {i:Image} {r:Req} (h:(U0 i r).2.2≠0):(U0 i r).1=[]:=by
 unfold U0 at h⊢;split
 ·rfl
 ·rename_i hm;rw[Ug hm]at h;split at h
  ·exact absurd Y h
  ·exact absurd Y h
theorem VG (vQ:Int) (l:List Req) (r:Req):Aif vQ (l++[r])=Aqe (Aif vQ l) (U0 (Aif vQ l) r).1:=by simp[Aif]
theorem Avz (vQ:Int) (ht:vQ=0\/vQ=1) (l:List Req) (hl:l.length<=100) (hb: ∀r∈l,r.b.rZ.length<=60):A3z 10 [.t (.int .i8 vQ),.t (.slice .any 15 (l.map A7))] [] (.tuple [.agg (Af (Ao (Aif vQ l))),.t (.bool true)]) []:=by
 have aQ:(l.map A7).length=l.length:=Ts ..;have cf:=Aqz;have cc:=Kf (Aif vQ l) (Aon ht l Aa).vT.vS;rw[(Aon ht l Aa).chk,WU Y]at cc;refine yF Tryz.func10 ?_
 repeat'(first|exact Au|refine yC ?_ ?_|refine⟨λh=>?_⟩|refine BA 5 13 ?_|refine BA 9 5 ?_|fail)
 refine A6j 12 3 (x:=.t (.slice .nil 0 [])) (y:=.t (.slice .any 5 [])) Y Y Ay ?_;refine A6j 12 4 (x:=.t (.slice .nil 0 [])) (y:=.t (.slice .any 3 [])) Y Y Ay ?_;refine A6j 12 5 (x:=.t (.slice .nil 0 [])) (y:=.t (.slice .any 4 [])) Y Y Ay ?_;refine A6j 12 8 (x:=.t (.slice .nil 0 [])) (y:=.t (.slice .any 5 [])) Y Y Ay ?_;refine A6j 12 9 (x:=.t (.slice .nil 0 [])) (y:=.t (.slice .any 3 [])) Y Y Ay ?_;refine A6j 12 10 (x:=.t (.slice .nil 0 [])) (y:=.t (.slice .any 4 [])) Y Y Ay ?_;refine A6j 12 13 (x:=.t (.slice .nil 0 [])) (y:=.t (.slice .any 5 [])) Y Y Ay ?_;refine A6j 12 14 (x:=.t (.slice .nil 0 [])) (y:=.t (.slice .any 3 [])) Y Y Ay ?_;refine A6j 12 15 (x:=.t (.slice .nil 0 [])) (y:=.t (.slice .any 4 [])) Y Y Ay ?_;refine AW (ι:=Nat) (λk=>k<=l.length) (λk=>[(1,.t (.slice .any 15 (l.map A7))),(4,.ref 8 0),(6,.ref 12 0),(7,.t (.int .i64 k))]) (λk=>[(12,.cells (Af (Ao (Aif vQ (l.take k))))),(8,.cells (Af A1h.zero))]) (λk=>l.length-k) 0 Ac ?_ ?_
 ·exact Bb [] Aa6 Y
 rintro k hk;by_cases aC:k<l.length
 ·have hr:l[k]?=some l[k]:=Kv aC;have hrb:=hb l[k] (Agz aC);generalize l[k]=r at hr hrb;have hR:=Aon ht (l.take k) (by rw[A2i];omega);have cp:=Aqo hR (by rw[A2i];omega) r Aa;have hz:=A2v (i:=Aif vQ (l.take k)) (r:=r);have h4:=(A2u hR (by rw[A2i];omega) r).many;have hs:=VG vQ (l.take k) r;rw[<-AB hr]at hs;clear hR cc cf;generalize Aif vQ (l.take k)=I at cp hz hs h4⊢;generalize U0 I r=X at cp hz hs h4;obtain⟨L,y,e⟩:=X;simp only at cp hz hs h4;by_cases he:e=0
  ·subst he;clear hz
   cases hL:L.getLast? with
   |none=>
    have hn:L=[]:=A6e.1 hL;subst hn;have hs:Aif vQ (l.take (k+1))=I:=hs
    repeat'(first|exact Au|refine yC ?_ ?_|refine⟨λh=>?_⟩|refine BA 9 5 ?_|refine D4 5 13 [(12,18)] [0,0,0,6,14,31,63,127,127,127,0,1279,3583,8191] ?_|fail)
    all_goals first
     |(refine AM (k+1) aC Aa [9] (Ag Y Y (Ag Y Y (Ag Y Y (Ag Y (by rw[A1 Aa Aa];rfl) A8)))) ?_
       rw[hs];rfl)
     |(exfalso;simp at h;done)
   |some s=>
    have hs:Aif vQ (l.take (k+1))=s.i:=by rw[hs];unfold Aqe;rw[hL]
    obtain⟨a,ha⟩:=A7x.1 hL;have hm:L.length=a.length+1:=by rw[ha];simp
    have cS:L[a.length]?=some s:=by rw[ha];simp
    have hlL:(L.map Bx).length=a.length+1:=by rw[Ts,hm]
    have cJ:L.length<=1000000:=Aa;have hw:IntKind.i64.wrap (((L.map Bx).length:Int)-1)=((a.length:Nat):Int):=by rw[A1 Aa Aa];omega
    generalize a.length=m at hm cS hlL hw;clear hL ha
    repeat'(first|exact Au|rw[hw]|refine yC ?_ ?_|refine⟨λh=>?_⟩|refine BA 9 5 ?_|refine D4 5 13 [(12,18)] [0,0,0,6,14,31,63,127,127,127,0,1279,3583,8191] ?_|fail)
    all_goals first
     |(refine AM (k+1) aC Aa [9] (Ag Y Y (Ag Y Y (Ag Y Y (Ag Y (by rw[A1 Aa Aa];rfl) A8)))) ?_
       rw[hs];rfl)
     |(exfalso;omega)
  ·have hn:=hz he;subst hn;have hs:Aif vQ (l.take (k+1))=I:=hs
   repeat'(first|exact Au|refine yC ?_ ?_|refine⟨λh=>?_⟩|refine BA 9 5 ?_|refine D4 5 13 [(12,18)] [0,0,0,6,14,31,63,127,127,127,0,1279,3583,8191] ?_|fail)
   all_goals first
    |(refine AM (k+1) aC Aa [9] (Ag Y Y (Ag Y Y (Ag Y Y (Ag Y (by rw[A1 Aa Aa];rfl) A8)))) ?_
      rw[hs];rfl)
    |(exfalso;simp_all;done)
 ·rw[QQ Aa]
  repeat'(first|exact Au|refine yC ?_ ?_|refine⟨λh=>?_⟩|refine BA 5 13 ?_|refine D4 9 5 [(4,8)] [0,0,2,6,7,31] ?_|fail)
  exact Ah Y (As ⟨A3m Y,BL Ac,trivial⟩)
def Tc (b x:Bool) (l:List Req):Image:=if x=true then Al1 else Aif (if b=true then 1 else 0) l
theorem Pl:Aq (AV.agg (Af A1h.zero)) (AV.agg (Af (Ao Al1))):=by
 refine AC ?_;exact AA
theorem Bm (b:Bool) (l:List Req):Hs Tryz.prog 19 [.t (.bool b),.t (.slice .any 15 (l.map A7))] [] (λx:Bool=>x=false->l.length<=100/\ ∀r∈l,r.b.rZ.length<=60) (λx=>.tuple [.agg (Af (Ao (Tc b x l))),.t (.bool (!x))]) (λ_=>[]):=by
 refine Dz Ai Tryz.func19 Y Y ?_
 repeat'(first|exact Au|refine A6q 7 ?_|refine yC ?_ ?_|refine⟨λh=>?_⟩|refine JO Ai [] [] Y Y Y Y Y (Aoq l) Y (λ_ _=>rfl) (λ_ _=>rfl) (λ_ _=>rfl) (λj hj=>?_)|fail)
 refine Hold.mk ?_
 cases j with
 |true=>
  repeat'(first|exact Au|refine yC ?_ ?_|refine⟨λh=>?_⟩|fail)
  all_goals first
   |exact Ir true (λhx=>by cases hx) [4] rfl rfl rfl (As ⟨Pl,A3l _,trivial⟩)
   |(exfalso;simp_all;done)
 |false=>
  have hj:=hj Y;cases b
  all_goals
   have cb:=Avz 0 (.inl Y) l hj.1 hj.2;have cd:=Avz 1 (.inr Y) l hj.1 hj.2
   repeat'(first|exact Au|refine yC ?_ ?_|refine⟨λh=>?_⟩|fail)
   all_goals first
    |exact Ir false (λ_=>hj) [4] Y Y Y (A3m Y)
    |(exfalso;simp_all;done)
def Qs:Image:=⟨0,EW,EW,EW,Aor⟩
def Wi:MState:=⟨1,⟨1,1,0,5,0,[],[],0⟩,BX,BX,-1,-1,-1,-1,-1,-1⟩
def Qr:Image:=⟨0,EW,EW,EW,Wi⟩
def ZS:Req:={Apx 1 with mZ:=5}
def Rk:Req:={Apx 2 with b:=⟨1,0,0,false,[⟨[],[]⟩]⟩}
def A4d:Step:=⟨Gn 0 (ZJ 0 5),Qr⟩
theorem A37:U0 Qs ZS=([A4d],⟨1,0,1,0,0,[]⟩,0):=Ab
theorem A41:U0 Qr Rk=([],BO 2 200,0):=Ab
theorem A27:Rch 0 Qs:=Asp (.inl Y)
theorem A5q:Rch 4 Qr:=Aqq A27 Ae (r:=ZS) (s:=A4d) (by rw[A37];simp)
def A4e:List T:=[.int .i8 0,.int .i64 0,.int .i64 0,.slice .nil 0 [],.slice .nil 0 [],.slice .nil 0 [],.int .i64 0,.int .i64 0,.slice .nil 0 [],.slice .nil 0 [],.slice .nil 0 [],.int .i64 0,.int .i64 0,.slice .nil 0 [],.slice .nil 0 [],.slice .nil 0 []]++Az Aor
def A36:List T:=[.int .i8 1,.int .i64 0,.int .i64 5,.int .i64 0,.int .i64 0,.int .i64 0,.int .i64 0,.int .i64 0,.int .i64 0,.bool false,.int .i64 0,.int .i64 0,.int .i64 0,.bool false,.slice .nil 0 []]
def A35:List T:=[.int .i8 2,.int .i64 0,.int .i64 0,.int .i64 0,.int .i64 0,.int .i64 0,.int .i64 0,.int .i64 0,.int .i64 0,.bool false,.int .i64 1,.int .i64 0,.int .i64 0,.bool false,.slice .full 2 [[.str [],.str []]]]
theorem Atc:Aq (.agg (Af A4e)) (.agg (Af (Ao Qs))):=by
 refine AC ?_;exact AA
theorem A0z:Aq (.agg (Af A36)) (.agg (Af (A7 ZS))):=by
 refine AC ?_;exact AA
theorem A0y:Aq (.agg (Af A35)) (.agg (Af (A7 Rk))):=by
 refine AC ?_;exact AA
theorem Av2:A3z 9 [] [] (.t (.bool true)) []:=by
 have cf:=Aqz;have cc:=Kf Qs A27.vT.vS;rw[A27.chk,WU Y]at cc;have p1:=Aqo A27 Ae ZS Ae;have p2:=Aqo A5q Ae Rk Ae;rw[A37]at p1;rw[A41]at p2;have c3:A3z 14 [.agg (Af A4e)] _ _ _:=cc.args ⟨Atc,trivial⟩;have c1:A3z 11 [.agg (Af A4e),.agg (Af A36)] _ _ _:=p1.args ⟨Atc,A0z,trivial⟩;have c2:A3z 11 [.agg (Af (Ao Qr)),.agg (Af A35)] _ _ _:=p2.args ⟨A3l _,A0y,trivial⟩;refine yF Tryz.func9 ?_
 repeat'(first|exact Au|refine yC ?_ ?_|refine⟨λh=>?_⟩|fail)
 all_goals try(exfalso;clear c1 c2 c3 cc cf p1 p2;simp_all[A4d,Gn,BO];done)
 all_goals first
  |exact Ah Y (BL Ac)
