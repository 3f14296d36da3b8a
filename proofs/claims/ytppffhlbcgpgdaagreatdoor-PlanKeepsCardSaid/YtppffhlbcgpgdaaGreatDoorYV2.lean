/- The law PlanKeeps: for every input it answers true. -/
import Derived.Test.YtppffhlbcgpgdaaGreatDoorYVH
set_option linter.all false
set_option maxRecDepth 100000
set_option maxHeartbeats 8000000
namespace Go.Proofs.YtppffhlbcgpgdaaGreatDoor
open Go.Am
attribute [local irreducible] Decidable.decide Tr A6 CG EJ
def A31 (k:Int):Bool:=decide (0<=k/\k<=9/\k≠5/\k≠7)
theorem A0t (k:Int):A3z 13 [.t (.int .i8 k)] [] (.t (.bool (A31 k))) []:=by
 refine yF Tryz.func13 ?_
 repeat'(first|exact Au|refine yC ?_ ?_|refine⟨λh=>?_⟩|fail)
 all_goals first
  |(refine Ah Y (BL ?_);unfold A31;symm;first|exact A32 Aa|exact A44 Aa)
  |(refine Ah Y (BL ?_);show(decide _)=_;unfold A31;symm;exact A7c.2 Aa)
  |(refine Ah Y (BL ?_);show(!decide _)=_;unfold A31;symm;rw[<-decide_not];exact A7c.2 Aa)
set_option maxHeartbeats 40000000 in
theorem Apm (cw:A3z 9 [] [] (.t (.bool true)) []) (b:Bool) (l:List Req) (r:Req) (I:Image) (L:List Step) (y:Reply) (hIt:I.vQ=if b=true then 1 else 0) (cb:A3z 10 [.t (.int .i8 (if b=true then 1 else 0)),.t (.slice .any 15 (l.map A7))] [] (.tuple [.agg (Af (Ao I)),.t (.bool true)]) []) (cp:A3z 11 [.agg (Af (Ao I)),.agg (Af (A7 r))] [] (.tuple [.t (.slice .any 48 (L.map Bx)),.agg (Af (Bw y)),.t (.int .i64 0)]) []) (cm:A3z 12 [.agg (Af (A7 r))] [] (.t (.bool (Fa r))) []) (hkd:y.kind=r.kind) (h4:L.length<=4) (h1:r.kind≠9->L.length<=1) (h2:0<L.length->y.e=0/\0<=r.kind/\r.kind<=9/\r.kind≠5/\r.kind≠7) (hS: ∀s∈L,SmallI s.i/\GK s.i=true/\s.i.vQ=I.vQ/\ ∀t,(0<=t/\t<3)->(Aj s.i.m t).state≠3/\(Aj s.i.m t).state≠4) (hW: ∀k s,L[k]?=some s->s.w=[]->r.kind=9/\k=0):A3z 3 [.t (.bool b),.t (.slice .any 15 (l.map A7)),.agg (Af (A7 r))] [] (.t (.bool true)) []:=by
 rw[<-hIt]at cb;have aQ:(L.map Bx).length=L.length:=Ts ..;have cch:=A0t r.kind
 have PZ:A31 r.kind=true\/L.length=0:=by
  by_cases h:0<L.length
  ·exact .inl (A32 (h2 h).2)
  ·exact .inr Aa
 generalize A31 r.kind=C at cch PZ;refine yF Tryz.func3 ?_
 repeat'(first|exact Au|refine A6q 23 ?_|refine yC ?_ ?_|refine⟨λh=>?_⟩|refine JO Ai [] [] Y Y Y Y Y (Aoq l) Y (λ_ _=>rfl) (λ_ _=>rfl) (λ_ _=>rfl) (λj hj=>?_)|refine JO Ai [] [] Y Y Y Y Y (Aop r) Y (λ_ _=>rfl) (λ_ _=>rfl) (λ_ _=>rfl) (λj hj=>?_)|fail)
 all_goals try(exact Ah Y (A3m Y))
 all_goals
  refine Hold.mk ?_;refine Ai2 (ι:=Unit) (λ_=>True) (λ_=>[(1,.t (.slice .any 15 (l.map A7))),(5,.ref 10 0),(7,.t (.int .i8 I.vQ))]) (λ_=>[(10,.cells (Af (A7 r)))]) (λ_ _ h=>h) ?_ ?_
  ·repeat'(first|exact Au|refine yC ?_ ?_|refine⟨λh=>?_⟩|fail)
   all_goals first
    |exact Aaw () trivial [] (Ag Y Y (Ag Y Y (Ag Y (by rw[hIt];simp_all) A8))) Y
  rintro _ _
  repeat'(first|exact Au|refine hold 12 ?_|refine yC ?_ ?_|refine⟨λh=>?_⟩|fail)
  all_goals try(exfalso;simp_all;done)
  refine Hold.mk ?_;refine Ai2 (ι:=Unit) (λ_=>True) (λ_=>[(5,.ref 10 0),(7,.t (.int .i8 I.vQ)),(10,.t (.slice .any 48 (L.map Bx))),(77,.t (.bool false))]) (λ_=>[(10,.cells (Af (A7 r)))]) (λ_ _ h=>h) ?_ ?_
  ·rcases PZ with hC|h0
   ·subst hC
    repeat'(first|exact Au|refine yC ?_ ?_|refine⟨λh=>?_⟩|fail)
    all_goals first
     |exact Aaw () trivial [8,11] Aa6 Y
     |(exfalso;omega)
     |(exfalso;simp_all;done)
     |(exfalso;simp_all;omega)
   ·repeat'(first|exact Au|refine yC ?_ ?_|refine⟨λh=>?_⟩|fail)
    all_goals first
     |(exfalso;omega)
     |exact Aaw () trivial [8,11] Aa6 Y
     |(exfalso;simp_all;done)
  rintro _ _
  repeat'(first|exact Au|refine yC ?_ ?_|refine⟨λh=>?_⟩|fail)
  refine AW (ι:=Nat) (λk=>k<=L.length) (λk=>[(5,.ref 10 0),(7,.t (.int .i8 I.vQ)),(10,.t (.slice .any 48 (L.map Bx))),(13,.t (.int .i64 k))]) (λ_=>[(10,.cells (Af (A7 r)))]) (λk=>L.length-k) 0 Ac ?_ ?_
  ·exact Bb [] Aa6 Y
  rintro k hk;by_cases aC:k<L.length
  ·have hr:L[k]?=some L[k]:=Kv aC;obtain⟨cS,kL,fS,cL⟩:=hS L[k] (Agz aC);have hw:=hW k L[k] hr;generalize L[k]=s at hr cS kL fS cL hw;have cc:=Kf s.i cS;rw[kL,WU Y]at cc;have s0:=cL 0 Aa;have s1:=cL 1 Aa;have s2:=cL 2 Aa;have hlw:(s.w.map BE).length=s.w.length:=Ts ..;have hw': ¬0<s.w.length->r.kind=9/\k=0:=λh=>hw (Aq1 Aa);simp only[Aj,Int.reduceEq,Xs,ZF]at s0 s1 s2;clear hS hW;have dO:IntKind.i64.wrap (0+1)=1:=A1 Aa Aa;have dD:IntKind.i64.wrap (1+1)=2:=A1 Aa Aa;have dZ:IntKind.i64.wrap (2+1)=3:=A1 Aa Aa
   repeat'(first|exact Au|rw[dO]|rw[dD]|rw[dZ]|refine yC ?_ ?_|refine⟨λh=>?_⟩|refine B6 5 ?_|refine BH ?_|fail)
   all_goals first
    |(refine AM (k+1) aC Aa [14] (Ag Y Y (Ag Y Y (Ag Y Y (Ag Y (by rw[A1 Aa Aa];rfl) A8)))) Y)
    |(exfalso;omega)
    |(exfalso;simp_all;omega)
  ·repeat'(first|exact Au|refine yC ?_ ?_|refine⟨λh=>?_⟩|fail)
   all_goals first
    |exact Ah Y (A3m Y)
    |(exfalso;omega)
theorem A2w (b:Bool) (l:List Req) (r:Req):A3z 3 [.t (.bool b),.t (.slice .any 15 (l.map A7)),.agg (Af (A7 r))] [] (.t (.bool true)) []:=by
 have cw:=Av2;by_cases hg:(l.length<=100/\ ∀r∈l,r.b.rZ.length<=60)/\r.b.rZ.length<=60
 ·obtain⟨⟨hl,oB⟩,hr60⟩:=hg;have ht:(if b=true then(1:Int)else 0)=0\/(if b=true then(1:Int)else 0)=1:=by cases b<;>simp
  have cb:=Avz _ ht l hl oB;have hR:=Aon ht l Aa;have cp:=Aqo hR Aa r Aa;have hK:=A2u hR Aa r;have hIt:=A0u (if b=true then(1:Int)else 0) l
  have hS: ∀s∈(U0 (Aif (if b=true then(1:Int)else 0) l) r).1,Rch (4*l.length+4) s.i/\s.i.vQ=(Aif (if b=true then(1:Int)else 0) l).vQ:=λs hs=>⟨Aqq hR Aa hs,Aui hs⟩
  have cm:=A3e r Aa;clear hR ht;generalize Aif (if b=true then(1:Int)else 0) l=I at cb cp hK hS hIt;generalize U0 I r=X at cp hK hS;obtain⟨L,y,e⟩:=X;simp only at cp hK hS;by_cases he:e=0
  ·subst he;exact Apm cw b l r I L y hIt cb cp cm (hK.kind Y) hK.many hK.one (λh=>hK.good Y (λe=>by subst e;simp at h)) (λs hs=>⟨(hS s hs).1.vT.vS,(hS s hs).1.chk,(hS s hs).2,(hS s hs).1.vT.st⟩) hK.w
  ·obtain⟨hm,hL⟩:=hK.bad he;rw[hm]at cm;refine yF Tryz.func3 ?_;cases b
   all_goals
    simp only[A0s,ZF,Xs]at hIt cb
    repeat'(first|exact Au|refine yC ?_ ?_|refine⟨λh=>?_⟩|refine JO Ai [] [] Y Y Y Y Y (Aoq l) Y (λ_ _=>rfl) (λ_ _=>rfl) (λ_ _=>rfl) (λj hj=>?_)|refine JO Ai [] [] Y Y Y Y Y (Aop r) Y (λ_ _=>rfl) (λ_ _=>rfl) (λ_ _=>rfl) (λj hj=>?_)|fail)
    all_goals first
     |exact Ah Y (A3m Y)
     |(exfalso;simp_all;done)
 ·refine yF Tryz.func3 ?_
  repeat'(first|exact Au|refine yC ?_ ?_|refine⟨λh=>?_⟩|refine JO Ai [] [] Y Y Y Y Y (Aoq l) Y (λ_ _=>rfl) (λ_ _=>rfl) (λ_ _=>rfl) (λj hj=>?_)|refine JO Ai [] [] Y Y Y Y Y (Aop r) Y (λ_ _=>rfl) (λ_ _=>rfl) (λ_ _=>rfl) (λj hj=>?_)|fail)
  all_goals first
   |exact Ah Y (A3m Y)
   |(exfalso;simp_all;done)
