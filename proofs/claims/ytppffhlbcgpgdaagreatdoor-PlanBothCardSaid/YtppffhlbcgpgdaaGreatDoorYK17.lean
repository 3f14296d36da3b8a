/- Lemmas toward the law; each names its conditions. -/
import Derived.Test.YtppffhlbcgpgdaaGreatDoorYXR
set_option linter.all false
set_option maxRecDepth 100000
set_option maxHeartbeats 8000000
namespace Go.Proofs.YtppffhlbcgpgdaaGreatDoor
open Go.Am
attribute [local irreducible] Decidable.decide Tr A6 CG EJ
theorem A17 (b:Batch):Hs Tryz.prog 26 [.agg (Af (Ak b))] [] (λx:Bool=>x=false->b.rZ.length<=60) (λx=>.t (.bool x)) (λ_=>[]):=by
 have aQ:(b.rZ.map AX).length=b.rZ.length:=Ts ..;refine Dz Ai Tryz.func26 Y Y ?_
 repeat'(first|exact Au|refine yC ?_ ?_|refine⟨λh=>?_⟩|refine B5 5 18 ?_|fail)
 refine AW (ι:=Int×Nat) (λp=>p.2<=b.rZ.length) (λp=>[(1,.ref 2 0),(3,.t (.int .i64 p.1)),(4,.t (.int .i64 p.2))]) (λ_=>[(2,.cells (Af (Ak b)))]) (λp=>b.rZ.length-p.2) (0,0) Ac ?_ ?_
 ·exact Bb [] Aa6 Y
 rintro⟨s,i⟩ hi;dsimp only at hi;by_cases aC:i<b.rZ.length
 ·have hr:b.rZ[i]?=some b.rZ[i]:=Kv aC;generalize b.rZ[i]=c at hr
  repeat'(first|exact Au|refine yC ?_ ?_|refine⟨λh=>?_⟩|refine B5 5 18 ?_|fail)
  all_goals first
   |(refine AM (_,i+1) aC (show b.rZ.length-(i+1)<b.rZ.length-i from Aa) [] (Ag Y Y (Ag Y Y (Ag Y (by rw[A1 Aa Aa];rfl) A8))) Y)
   |(refine Ir _ (λhx=>?_) [1] Y Y Y (A3l _);first|(cases hx;done)|omega)
 ·repeat'(first|exact Au|refine yC ?_ ?_|refine⟨λh=>?_⟩|refine B5 5 18 ?_|fail)
  all_goals(refine Ir _ (λhx=>?_) [1] Y Y Y (A3l _);first|(cases hx;done)|omega)
theorem Aop (r:Req):Hs Tryz.prog 8 [.agg (Af (A7 r))] [] (λx:Bool=>x=false->r.b.rZ.length<=60) (λx=>.t (.bool x)) (λ_=>[]):=by
 refine Dz Ai Tryz.func8 Y Y ?_
 repeat'(first|exact Au|refine yC ?_ ?_|refine⟨λh=>?_⟩|refine JO Ai [] [] Y Y Y Y Y (A17 r.b) Y (λ_ _=>rfl) (λ_ _=>rfl) (λ_ _=>rfl) (λj hj=>?_)|fail)
 exact Ir j hj [1] Y Y Y (A3l _)
structure PB (p:Part):Prop where
 rows:p.rows.length<=900000
 kI:p.kI.length<=900000
theorem Asv (l:List Row) (hl:l.length<=100000000):A3z 23 [.t (.slice .any 5 (l.map Aw)),.t (.slice .any 5 (l.map Aw))] [] (.t (.bool true)) []:=by
 have aQ:(l.map Aw).length=l.length:=Ts ..;refine yF Tryz.func23 ?_
 repeat'(first|exact Au|refine yC ?_ ?_|refine⟨λh=>?_⟩|refine BA 6 8 ?_|fail)
 all_goals try(exfalso;simp_all;done)
 refine AW (ι:=Nat) (λi=>i<=l.length) (λi=>[(0,.t (.slice .any 5 (l.map Aw))),(1,.t (.slice .any 5 (l.map Aw))),(5,.t (.int .i64 i))]) (λ_=>[]) (λi=>l.length-i) 0 Ac ?_ ?_
 ·exact Bb [] Aa6 Y
 rintro i hi;by_cases aC:i<l.length
 ·have hr:l[i]?=some l[i]:=Kv aC;generalize l[i]=r at hr
  repeat'(first|exact Au|refine yC ?_ ?_|refine⟨λh=>?_⟩|refine BA 6 8 ?_|fail)
  all_goals first
   |(exfalso;omega)
   |(exfalso;simp_all;done)
   |(refine AM (i+1) aC Aa [] (Ag Y Y (Ag Y Y (Ag Y (by rw[A1 Aa Aa];rfl) A8))) Y)
 ·repeat'(first|exact Au|refine yC ?_ ?_|refine⟨λh=>?_⟩|refine BA 6 8 ?_|fail)
  all_goals first
   |(exfalso;omega)
   |exact Ah Y (A3m Y)
theorem Asd (l:List Opn) (hl:l.length<=1000000) (hs: ∀o∈l,Iw o):A3z 40 [.t (.slice .any 3 (l.map An)),.t (.slice .any 3 (l.map An))] [] (.t (.bool true)) []:=by
 have aQ:(l.map An).length=l.length:=Ts ..;refine yF Tryz.func40 ?_
 repeat'(first|exact Au|refine yC ?_ ?_|refine⟨λh=>?_⟩|refine BA 6 37 ?_|refine BA 11 16 ?_|fail)
 all_goals try(exfalso;simp_all;done)
 refine AW (ι:=Nat) (λi=>i<=l.length) (λi=>[(0,.t (.slice .any 3 (l.map An))),(1,.t (.slice .any 3 (l.map An))),(5,.t (.int .i64 i))]) (λ_=>[]) (λi=>l.length-i) 0 Ac ?_ ?_
 ·exact Bb [] Aa6 Y
 rintro i hi;by_cases aC:i<l.length
 ·have hr:l[i]?=some l[i]:=Kv aC;have iK:=hs l[i] (Agz aC);generalize l[i]=o at hr iK;have f8:(o.gG.map Ak).length=o.gG.length:=Ts ..;have oG:=iK.1
  repeat'(first|exact Au|refine yC ?_ ?_|refine⟨λh=>?_⟩|refine BA 6 37 ?_|refine BA 11 16 ?_|fail)
  all_goals try(exfalso;omega)
  all_goals try(exfalso;simp_all;done)
  refine AW (ι:=Nat) (λj=>j<=o.gG.length) (λj=>[(0,.t (.slice .any 3 (l.map An))),(1,.t (.slice .any 3 (l.map An))),(5,.t (.int .i64 i)),(6,.t (.int .i64 j))]) (λ_=>[]) (λj=>o.gG.length-j) 0 Ac ?_ ?_
  ·exact Bb [] Aa6 Y
  rintro j hj;by_cases dX:j<o.gG.length
  ·have gV:o.gG[j]?=some o.gG[j]:=Kv dX;have kV:=iK.2 o.gG[j] (Agz dX);generalize o.gG[j]=b at gV kV;have cs:=Asy b b kV;rw[A32 Y]at cs
   repeat'(first|exact Au|refine yC ?_ ?_|refine⟨λh=>?_⟩|refine BA 6 37 ?_|refine BA 11 16 ?_|fail)
   all_goals first
    |(exfalso;omega)
    |(exfalso;simp_all;done)
    |(refine AM (j+1) dX Aa [] (Ag Y Y (Ag Y Y (Ag Y Y (Ag Y (by rw[A1 Aa Aa];rfl) A8)))) Y)
  ·repeat'(first|exact Au|refine yC ?_ ?_|refine⟨λh=>?_⟩|refine BA 6 37 ?_|refine BA 11 16 ?_|fail)
   all_goals first
    |(exfalso;omega)
    |(refine AM (i+1) aC Aa [] (Ag Y Y (Ag Y Y (Ag Y (by rw[A1 Aa Aa];rfl) A8))) Y)
 ·repeat'(first|exact Au|refine yC ?_ ?_|refine⟨λh=>?_⟩|refine BA 6 37 ?_|refine BA 11 16 ?_|fail)
  all_goals first
   |(exfalso;omega)
   |exact Ah Y (A3m Y)
end Go.Proofs.YtppffhlbcgpgdaaGreatDoor
namespace Go.Proofs.YtppffhlbcgpgdaaGreatDoor
open Go.Am
attribute [local irreducible] Decidable.decide
theorem MI {c:Coord} {oC:Bool} {sA:Int} (hp:CN c oC sA=0):BD c=true/\((0<=sA/\sA<=20)/\(oC=true->sA=0))/\ ¬(0<sA/\100<=c.lT):=by
 unfold CN at hp;split at hp
 ·rename_i h;exact absurd hp h
 ·rename_i h;have h':ER c 2 (decide ((0<=sA/\sA<=20)/\(oC=true->sA=0)))=0:=A34.1 h;unfold ER at h';split at h'
  ·cases h'
  ·rename_i hn
   have hm:BD c=true:=by
    cases hmm:BD c with
    |true=>rfl
    |false=>exact absurd (.inr hmm) hn
   have hf:(0<=sA/\sA<=20)/\(oC=true->sA=0):=by
    refine Ya λhx=>hn (.inl (A44 hx))
   refine⟨hm,hf,λhx=>?_⟩;rw[WU hx]at hp;cases hp
theorem Ap8 {c:Coord} {oC:Bool} {sA:Int} (hp:CN c oC sA=0):CT c oC sA=Dd c oC sA:=by simp[CT,hp,Dd]
theorem Afi {c:Coord} {oC:Bool} {sA:Int} (hm:BD c=true) (h2:c.state=2):CN c oC sA=if ¬((0<=sA/\sA<=20)/\(oC=true->sA=0))then 2 else if 0<sA/\100<=c.lT then 102 else 0:=by
 have hb:Ci c.state 2=true:=by rw[h2];decide+kernel
 by_cases hf:(0<=sA/\sA<=20)/\(oC=true->sA=0)
 ·rw[Ug (λx=>x hf)];unfold CN ER;rw[A32 hf,hm,hb];simp
 ·rw[WU hf];unfold CN ER;rw[A44 hf];simp
theorem Aaj (c:Coord) (oC:Bool) (sA:Int):DJ (Dd c oC sA)=DJ c:=rfl
theorem J2 {c:Coord} {oC:Bool} {sA:Int} (hm:BD c=true) (h2:c.state=2) (hf:(0<=sA/\sA<=20)/\(oC=true->sA=0)) (hx: ¬(0<sA/\100<=c.lT)):BD (Dd c oC sA)=true:=by
 have hr:=Fm hm Aa;rw[<-Aaj c oC sA]at hr
 cases oC with
 |true=>
  have h0:sA=0:=hf.2 Y;have e:(Dd c true sA).state=3:=rfl;have et:(Dd c true sA).sA=0:=h0;unfold BD;simp[e,et,hr]
 |false=>
  have e:(Dd c false sA).state=4:=rfl;have et:(Dd c false sA).sA=sA:=rfl;have ee:(Dd c false sA).lT=c.lT:=rfl;unfold BD;rw[Ug (by rw[e];decide),Ug (by rw[e];decide),Ug (by rw[e];decide),WU e,hr,et,ee];simp;omega
theorem MH (c:Coord) (oC:Bool) (sA:Int):(Dd c oC sA).state=3\/(Dd c oC sA).state=4:=by
 cases oC
 ·exact .inr Y
 ·exact .inl Y
theorem MV {c:Coord} (hm:BD c=true) (h:c.state=3\/c.state=4):EK c=0:=by
 have hb:Ci c.state 3=true:=by rcases h with h|h<;>simp[Ci,h]
 simp[EK,ER,hm,hb]
theorem Ahm {c:Coord} (hm:BD c=true) (h:c.state=3\/c.state=4):BD (C3 c)=true/\(C3 c).lO=c.lO:=by
 have e:=MV hm h;have ec:C3 c=if 0<c.sA then⟨1,c.lO,c.lT+1,c.sA,0,[],[],0⟩else⟨if c.state=4 then 6 else 5,c.lO,c.lT,c.mZ,0,[],[],0⟩:=by simp[C3,e]
 have hr:=Iz (Fm hm Aa)
 have ht:0<c.sA->c.lT<100/\c.sA<=20:=by
  intro h0;unfold BD at hm;rcases h with h|h
  ·simp[h]at hm;omega
  ·simp[h]at hm;omega
 rw[ec];by_cases h0:0<c.sA
 ·rw[WU h0];have:=ht h0;refine⟨?_,Y⟩;simp only[BD,DJ,CD,Gk,CS,List.all_nil,A5a,A78,Int.reduceEq,ZF,true_or,or_true,Xs,and_self,A69,Qp,Uj];omega
 ·rw[Ug h0];refine⟨?_,Y⟩;rcases h with h|h
  all_goals
   simp only[h,BD,DJ,CD,Gk,CS,List.all_nil,A5a,A78,Int.reduceEq,ZF,true_or,or_true,Xs,and_self,A69,Qp,Uj];omega
theorem Gg (s:MState) {t:Int} (h:0<=t/\t<3) (c:Coord):Aj (AO s t c) t=c:=by
 rcases AH h with rfl|rfl|rfl<;>rfl
theorem D5 {s:MState} {t:Int} {c:Coord} (h:0<=t/\t<3) (hm:Bv s=true) (hc:BD c=true) (hp:c.lO=(Aj s t).lO):Bv (AO s t c)=true:=by
 simp only[Bv,FQ,Qp,Uj]at hm;rcases AH h with rfl|rfl|rfl
 all_goals
  simp only[Aj,Int.reduceEq,Xs,ZF]at hp;simp only[AO,Bv,FQ,Int.reduceEq,Xs,ZF,Qp,Uj,hp,hc,A7b,A8b];simp only[hm,A7b,A8b,and_self,not_false_eq_true,ne_eq]
theorem UB {s:MState} {g q n:Int} (hm:Bv s=true) (hn:HE n=true):Bv (Hw s g q n)=true:=by
 simp only[Bv,Qp]at hm;unfold Hw
 repeat' split
 all_goals(simp only[Bv,Qp,hn,A7b,A8b];simp only[hm,and_self])
theorem PP: ∀(l:List Pend) {s:MState},Bv s=true->l.all AZ=true->Bv (CQ s l)=true
 |[],_,h,_=>h
 |p::r,s,h,ha=>by
  simp only[A6y,Qp]at ha;have hp:=ha.1;simp only[AZ,Uj]at hp;exact PP r (UB h (by simp only[HE,Uj];omega)) ha.2
theorem U9 {c:Coord} (hm:BD c=true) (h0:c.state≠0):c.rH.all AZ=true:=by
 have:=Fm hm h0;unfold DJ at this;simp only[Qp]at this;exact this.1
theorem Lo {s:MState} {t:Int} (h:0<=t/\t<3) (hm:Bv s=true) (hc:BD (Aj s t)=true) (h34:(Aj s t).state=3\/(Aj s t).state=4):Bv (DY s t)=true:=by
 have h1:=Ahm hc h34;have h2:=D5 h hm h1.1 h1.2;unfold DY;split
 ·exact PP _ h2 (U9 hc Aa)
 ·exact h2
theorem CZ {s:MState} (hm:Bv s=true):MayT s:=by
 simp only[Bv,Qp]at hm;exact⟨hm.2.1.1,hm.2.2.1.1,hm.2.2.2.1.1⟩
theorem MayT.mY {s:MState} (h:MayT s) (t:Int):BD (Aj s t)=true:=by
 unfold Aj;repeat' split
 ·exact h.t0
 ·exact h.t1
 ·exact h.t2
theorem Km {c:Coord} (h:BD c=true):G7 c:=by
 unfold BD at h
 repeat' split at h
 all_goals first
  |(cases h;done)
  |(constructor<;>omega)
theorem Ak5 {s:MState} (hm:Bv s=true):StM s:=by
 have:=CZ hm;exact⟨Km this.t0,Km this.t1,Km this.t2⟩
theorem NF (i:Image) {q q':Int} (h:q=0\/q=1\/q=2) (h':q'=0\/q'=1\/q'=2) (p:Part):A5 (CP i q p) q'=if q'=q then p else A5 i q':=by
 rcases h with rfl|rfl|rfl<;>rcases h' with rfl|rfl|rfl<;>rfl
theorem Va (lO:Int) (oC:Bool) (s:Step) (q:Int):(EQ lO oC s q).i.m=s.i.m/\(EQ lO oC s q).i.vQ=s.i.vQ:=by
 unfold EQ CP;simp only
 repeat' split
 all_goals exact⟨Y,Y⟩
theorem IF (lO:Int) (oC:Bool): ∀(l:List Int) (s:Step),(DX lO oC s l).i.m=s.i.m/\(DX lO oC s l).i.vQ=s.i.vQ
 |[],_=>⟨Y,Y⟩
 |q::r,s=>by
  have h1:=Va lO oC s q;have h2:=IF lO oC r (EQ lO oC s q);exact⟨h2.1.trans h1.1,h2.2.trans h1.2⟩
theorem Gd (lO:Int) (oC:Bool): ∀(l:List Int) (s:Step) (q':Int),l.Nodup->(∀q∈l,q=0\/q=1\/q=2)->(q'=0\/q'=1\/q'=2)->A5 (DX lO oC s l).i q'=if q'∈l then(Mn s.i.vQ q' (A5 s.i q') lO oC).part else A5 s.i q'
 |[],_,_,_,_,_=>by simp[DX]
 |q::r,s,q',hn,hq,jW=>by
  have iO:=A7w.1 hn;have ih:=Gd lO oC r (EQ lO oC s q) q' iO.2 (λx hx=>hq x (by simp[hx])) jW;have hs:=NF s.i (hq q Ac) jW (Mn s.i.vQ q (A5 s.i q) lO oC).part;have e:DX lO oC s (q::r)=DX lO oC (EQ lO oC s q) r:=rfl;have ep:A5 (EQ lO oC s q).i q'=if q'=q then(Mn s.i.vQ q (A5 s.i q) lO oC).part else A5 s.i q':=hs
  have et:(EQ lO oC s q).i.vQ=s.i.vQ:=(Va lO oC s q).2;rw[e,ih,ep,et];by_cases h1:q'=q
  ·subst h1;have i6:q'∉r:=iO.1;simp[i6]
  ·simp[h1]
theorem Hd {l:List Int} (h:CD l=true):l.Nodup/\(∀q∈l,q=0\/q=1\/q=2):=by
 simp only[CD,Qp]at h;refine⟨?_,λq hq=>?_⟩
 ·exact(N8 l h.1).imp λh=>Aa
 ·have:=A21.1 h.2 q hq;simp only[CU,Uj]at this;omega
theorem Akp {l:List Int} (hn:l.Nodup) (h: ∀q∈l,q=0\/q=1\/q=2):l.length<=3:=by
 match l,hn,h with
 |[],_,_=>simp
 |[_],_,_=>simp
 |[_,_],_,_=>simp
 |[_,_,_],_,_=>simp
 |a::b::c::d::r,hn,h=>
  exfalso;have ha:=h a Ac;have hb:=h b Ac;have hc:=h c Ac;have hd:=h d Ac;simp only[A7w,Als,not_or]at hn;obtain⟨⟨h1,h2,h3,_⟩,⟨h4,h5,_⟩,⟨h6,_⟩,_⟩:=hn;omega
theorem Aeb {e q:Int} {p:Part} {lO:Int} {oC:Bool} (hp:POk p) (he:e=0\/e=1) (hq:q=0\/q=1\/q=2):(Mn e q p lO oC).e=0:=by
 have hb:Fy e q p=false:=by
  unfold Fy;rw[Ez.2 hp,A44 Aa,A44 Aa];rfl
 unfold Mn;rw[hb];simp only[A0s,ZF];split<;>rfl
theorem YQ {e q:Int} {p:Part} {lO:Int} {oC:Bool} (hp:POk p) (he:e=0\/e=1) (hq:q=0\/q=1\/q=2):Mn e q p lO oC=⟨p,[],0⟩\/ ∃(k:Nat) (o:Opn),p.kI[k]?=some o/\o.lO=lO/\Mn e q p lO oC=⟨FF e p k o oC,P3 e q o oC,0⟩:=by
 have:=(Amx (Aeb (oC:=oC) (lO:=lO) hp he hq)).2;rcases this with⟨_,h⟩|⟨k,o,h1,h2,h3⟩
 ·exact .inl h
 ·exact .inr ⟨k,o,h1,h2,h3⟩
theorem R2 {e q:Int} {p:Part} {lO:Int} {oC:Bool} (hb:PB p) (hs:AU p) (hp:POk p) (he:e=0\/e=1) (hq:q=0\/q=1\/q=2):AU (Mn e q p lO oC).part/\Ju Opn.lO (Mn e q p lO oC).part.kI/\(Mn e q p lO oC).w.length<=20/\(∀o∈(Mn e q p lO oC).part.kI,o∈p.kI):=by
 rcases YQ (oC:=oC) (lO:=lO) hp he hq with h|⟨k,o,h1,h2,h3⟩
 ·rw[h];exact⟨hs,hp.vY,Ac,λo ho=>ho⟩
 ·rw[h3];have iU:=(hp.ook o (Apj h1)).1;have oG:=CM iU;have lX:=Hc (l:=o.gG) (λb hb=>(E2 iU b hb).1);have jU: ∀x∈p.kI.eraseIdx k,x∈p.kI:=λx hx=>List.mem_of_mem_eraseIdx hx;refine⟨⟨?_,?_,?_,?_⟩,Uh hp.vY,?_,jU⟩
  ·show(KK p o oC).1.length<=1000000;have:=hb.rows;unfold KK;split
   ·simp only[Xp,Hb];omega
   ·simp only[];omega
  ·show(p.kI.eraseIdx k).length<=1000000;have:=hs.2.1;have:=List.length_eraseIdx_le p.kI k;omega
  ·exact λx hx=>hs.2.2.1 x (jU x hx)
  ·exact PN (Vj hp.vW o.lO)
  ·show(P3 e q o oC).length<=20;unfold P3;split
   ·simp[EV]
   ·unfold Qt;have gC:(CI o).length=o.gG.length:=by simp[CI]
    split<;>simp[EV]<;>omega
structure Fit (i:Image):Prop where
 vS:SmallI i
 pok:POkI i
 b0:PB i.p0
 b1:PB i.p1
 b2:PB i.p2
 vW:Bv i.m=true
 vQ:i.vQ=0\/i.vQ=1
 owns: ∀t,(t=0\/t=1\/t=2)->(Aj i.m t).parts=BF i (Aj i.m t).lO
theorem Fit.pq {i:Image} (h:Fit i) {q:Int} (hq:q=0\/q=1\/q=2):POk (A5 i q)/\PB (A5 i q)/\AU (A5 i q):=by
 rcases hq with rfl|rfl|rfl
 ·exact⟨h.pok.p0,h.b0,h.vS.p0⟩
 ·exact⟨h.pok.p1,h.b1,h.vS.p1⟩
 ·exact⟨h.pok.p2,h.b2,h.vS.p2⟩
theorem Amf {i:Image} (hs:SmallI i) (h0:PB i.p0) (h1:PB i.p1) (h2:PB i.p2) (hc:GK i=true):Fit i:=by
 rw[Vk]at hc;simp only[Qp,Uj,V3,Xv,A5,Int.reduceEq,Xs,ZF]at hc;obtain⟨ht,hm,⟨⟨q0,_⟩,⟨q1,_⟩,⟨q2,_⟩⟩,⟨o0,o1,o2⟩⟩:=hc;refine⟨hs,⟨Ez.1 q0,Ez.1 q1,Ez.1 q2⟩,h0,h1,h2,hm,ht,λt ht=>?_⟩;rcases ht with rfl|rfl|rfl
 ·exact o0
 ·exact o1
 ·exact o2
theorem SmallI.mk' {i:Image} (hp: ∀q,(q=0\/q=1\/q=2)->AU (A5 i q)) (hm:SmallM i.m):SmallI i:=⟨hp 0 Ac,hp 1 Ac,hp 2 Ac,hm.t0,hm.t1,hm.t2⟩
section
variable {i:Image} {lO:Int} {oC:Bool} {w:List Wr} {m:MState}
theorem Ah1 (F:Fit i) (hm:SmallM m) (hw:w.length<=10) {l:List Int} (hn:l.Nodup) (hl: ∀q∈l,q=0\/q=1\/q=2):SmallI (DX lO oC ⟨w,Dy i m⟩ l).i:=by
 refine SmallI.mk' (λq hq=>?_) ?_
 ·rw[Gd lO oC l _ q hn hl hq];have hh:=F.pq hq;split
  ·exact(R2 hh.2.1 hh.2.2 hh.1 F.vQ hq).1
  ·exact hh.2.2
 ·rw[(IF lO oC l _).1];exact hm
theorem A0o (F:Fit i) (hw:w.length<=10): ∀{l:List Int},l.Nodup->(∀q∈l,q=0\/q=1\/q=2)-> ∀k,k<=l.length->(DX lO oC ⟨w,Dy i m⟩ (l.take k)).w.length<=10+20*k:=by
 intro l hn hl k
 induction k with
 |zero=>intro _;simpa[DX]using hw
 |succ k ih=>
  intro hk;have ih:=ih Aa;have hr:l[k]?=some l[k]:=Kv Aa;rw[AB hr,Qu];unfold EQ;simp only[Xp];have hq:=hl l[k] (Agz Aa);have rW:(l.take k).Nodup:=hn.sublist (A8y ..);have aC: ∀q∈l.take k,q=0\/q=1\/q=2:=λq hq=>hl q (A3c hq);rw[Gd lO oC (l.take k) _ l[k] rW aC hq,(IF lO oC (l.take k) _).2]
  have o8:l[k]∉l.take k:=by
   intro hx;obtain⟨j,hj,e⟩:=A51.1 hx;exact A52.1 hn j k Aa Aa Aa e
  rw[Ug o8];have hh:=F.pq hq;have:=(R2 (e:=i.vQ) (lO:=lO) (oC:=oC) hh.2.1 hh.2.2 hh.1 F.vQ hq).2.2.1;have e2:(Dy i m).vQ=i.vQ:=rfl;have e3:A5 (Dy i m) l[k]=A5 i l[k]:=rfl;simp only[e2,e3];omega
theorem An9 {l:List Int} (hn:l.Nodup) (hl: ∀q∈l,q=0\/q=1\/q=2) {k:Nat} {q:Int} (hk:l[k]?=some q):(q=0\/q=1\/q=2)/\A5 (DX lO oC ⟨w,Dy i m⟩ (l.take k)).i q=A5 i q/\(DX lO oC ⟨w,Dy i m⟩ (l.take k)).i.vQ=i.vQ:=by
 obtain⟨aC,e⟩:=ZH.1 hk;have hq:=hl q (Apj hk);have rW:(l.take k).Nodup:=hn.sublist (A8y ..);have iP: ∀q∈l.take k,q=0\/q=1\/q=2:=λq hq=>hl q (A3c hq);refine⟨hq,?_,(IF lO oC (l.take k) _).2⟩;rw[Gd lO oC (l.take k) _ q rW iP hq]
 have o8:q∉l.take k:=by
  intro hx;obtain⟨j,hj,e'⟩:=A51.1 hx;exact A52.1 hn j k Aa aC Aa (e'.trans e.symm)
 rw[Ug o8];rfl
theorem Arf (F:Fit i) (hm:SmallM m) (hw:w.length<=10) {l:List Int} (hn:l.Nodup) (hl: ∀q∈l,q=0\/q=1\/q=2):EndsOk lO oC ⟨w,Dy i m⟩ l:=by
 have h3:=Akp hn hl;refine⟨Aa,λk hk=>?_,λk q hk=>?_,λk hk=>?_⟩
 ·exact Ah1 F hm hw (hn.sublist (A8y ..)) λq hq=>hl q (A3c hq)
 ·obtain⟨hq,hp,ht⟩:=An9 (lO:=lO) (oC:=oC) (w:=w) (m:=m) (i:=i) hn hl hk;refine⟨hq,?_⟩;rw[hp,ht];exact Aeb (F.pq hq).1 F.vQ hq
 ·have:=A0o F (lO:=lO) (oC:=oC) (m:=m) hw hn hl k hk;omega
end
end Go.Proofs.YtppffhlbcgpgdaaGreatDoor
namespace Go.Proofs.YtppffhlbcgpgdaaGreatDoor
open Go.Am
attribute [local irreducible] Decidable.decide Tr A6 CG EJ
section
variable {i:Image}
def JU (i:Image) (mY:Int) (oC:Bool) (sA:Int):Step:=DX (Aj i.m mY).lO oC ⟨Gn i.vQ (JT mY oC sA),Dy i (AO i.m mY (Dd (Aj i.m mY) oC sA))⟩ (Aj i.m mY).parts
def Q4 (i:Image) (mY:Int) (oC:Bool) (sA:Int):Image:=Dy (JU i mY oC sA).i (DY (AO i.m mY (Dd (Aj i.m mY) oC sA)) mY)
def QV (i:Image) (mY:Int) (oC:Bool) (sA:Int):Step:=⟨(JU i mY oC sA).w++Gn i.vQ (JS mY),GQ (Q4 i mY oC sA) (Gi (Q4 i mY oC sA)) (Rw (Q4 i mY oC sA)) (Xe (Q4 i mY oC sA))⟩
theorem Agn (e:Int) (b:Bs):(Gn e b).length<=10:=by simp[Gn]
theorem RW {c:Coord} (hm:BD c=true) (h0:c.state≠0):CD c.parts=true:=by
 have:=Fm hm h0;unfold DJ at this;simp only[Qp]at this;exact this.2.2.1
theorem Sv (F:Fit i) {mY:Int} {oC:Bool} {sA:Int} (hn:(Aj i.m mY).parts.Nodup) (hl: ∀q∈(Aj i.m mY).parts,q=0\/q=1\/q=2) {q:Int} (hq:q=0\/q=1\/q=2):AU (A5 (Q4 i mY oC sA) q)/\Ju Opn.lO (A5 (Q4 i mY oC sA) q).kI/\DW (A5 (Q4 i mY oC sA) q) 0=false:=by
 have e:A5 (Q4 i mY oC sA) q=A5 (JU i mY oC sA).i q:=rfl;rw[e];unfold JU;rw[Gd _ oC _ _ q hn hl hq];have hh:=F.pq hq;split
 ·have h:=R2 (e:=i.vQ) (lO:=(Aj i.m mY).lO) (oC:=oC) hh.2.1 hh.2.2 hh.1 F.vQ hq;refine⟨h.1,h.2.1,?_⟩;unfold DW;rw[A4u];intro x hx;have:=(IH (hh.1.ook x (h.2.2.2 x hx)).1).1;simp;omega
 ·exact⟨hh.2.2,hh.1.vY,Al2 hh.1⟩
structure KOk (K:Image):Prop where
 vS:SmallI K
 st:StM K.m
 srt:SrtI K
 vW:MayT K.m
 place:PlaceOk K
theorem FY {c:Coord} {K:Image} (hm:BD c=true) (hz:BF K 0=[]):H4 c (BF K c.lO)=0:=by
 unfold H4;rw[Np,hm];rw[Ug Ac];by_cases h:c.state=0/\BF K c.lO≠[]
 ·exfalso
  have hc:c=BX:=by
   unfold BD at hm;rw[WU h.1]at hm;exact A5c hm
  have hp:c.lO=0:=by rw[hc];rfl
  rw[hp]at h;exact h.2 hz
 ·rw[Ug h]
theorem Auv (F:Fit i) {mY:Int} {oC:Bool} {sA:Int} (h:0<=mY/\mY<3) (hp:CN (Aj i.m mY) oC sA=0) (h2:(Aj i.m mY).state=2):KOk (Q4 i mY oC sA):=by
 obtain⟨hm,hf,hx⟩:=MI hp;obtain⟨hn,hl⟩:=Hd (RW hm Aa);have iD:=D5 (c:=Dd (Aj i.m mY) oC sA) h F.vW (J2 hm h2 hf hx) Y;have mD:BD (Aj (AO i.m mY (Dd (Aj i.m mY) oC sA)) mY)=true:=by rw[Gg _ h];exact J2 hm h2 hf hx
 have d6:(Aj (AO i.m mY (Dd (Aj i.m mY) oC sA)) mY).state=3\/(Aj (AO i.m mY (Dd (Aj i.m mY) oC sA)) mY).state=4:=by rw[Gg _ h];exact MH ..
 have nB:=Lo h iD mD d6;have em:(Q4 i mY oC sA).m=DY (AO i.m mY (Dd (Aj i.m mY) oC sA)) mY:=rfl;have q0:=Sv F (oC:=oC) (sA:=sA) hn hl (q:=0) Ac;have q1:=Sv F (oC:=oC) (sA:=sA) hn hl (q:=1) Ac;have q2:=Sv F (oC:=oC) (sA:=sA) hn hl (q:=2) Ac
 have hz:BF (Q4 i mY oC sA) 0=[]:=by
  have z0:DW (Q4 i mY oC sA).p0 0=false:=q0.2.2;have z1:DW (Q4 i mY oC sA).p1 0=false:=q1.2.2;have z2:DW (Q4 i mY oC sA).p2 0=false:=q2.2.2;unfold BF;rw[z0,z1,z2];rfl
 have cS:SmallM (Q4 i mY oC sA).m:=by
  rw[em];exact SmallM.compl (F.vS.m.set mY (c:=Dd (Aj i.m mY) oC sA) ⟨(F.vS.m.mY mY).parts,(F.vS.m.mY mY).rH⟩) mY
 have qN:MayT (Q4 i mY oC sA).m:=by rw[em];exact CZ nB
 refine⟨⟨q0.1,q1.1,q2.1,cS.t0,cS.t1,cS.t2⟩,by rw[em];exact Ak5 nB,⟨GO.1 q0.2.1,GO.1 q1.2.1,GO.1 q2.2.1⟩,qN,⟨FY qN.t0 hz,FY qN.t1 hz,FY qN.t2 hz⟩⟩
theorem XJ (F:Fit i) {mY:Int} {oC:Bool} {sA:Int} (h:0<=mY/\mY<3) (hp:CN (Aj i.m mY) oC sA=0) (h2:(Aj i.m mY).state=2):A3z 43 [.agg (Af (Ao i)),.t (.int .i64 mY),.t (.bool oC),.t (.int .i64 sA)] [] (.tuple [.agg (Af (Bx (QV i mY oC sA))),.t .nilIface]) []:=by
 obtain⟨hm,hf,hx⟩:=MI hp;obtain⟨hn,hl⟩:=Hd (RW hm Aa);have ec:=Ap8 hp;have hK:=Auv F h hp h2;have iD:=D5 (c:=Dd (Aj i.m mY) oC sA) h F.vW (J2 hm h2 hf hx) Y;have rK:SmallM (AO i.m mY (Dd (Aj i.m mY) oC sA)):=F.vS.m.set mY ⟨(F.vS.m.mY mY).parts,(F.vS.m.mY mY).rH⟩;have eJ:(JU i mY oC sA).i.m=AO i.m mY (Dd (Aj i.m mY) oC sA):=(IF ..).1;have etJ:(JU i mY oC sA).i.vQ=i.vQ:=(IF ..).2;have mD:BD (Aj (AO i.m mY (Dd (Aj i.m mY) oC sA)) mY)=true:=by rw[Gg _ h];exact J2 hm h2 hf hx
 have d6:(Aj (AO i.m mY (Dd (Aj i.m mY) oC sA)) mY).state=3\/(Aj (AO i.m mY (Dd (Aj i.m mY) oC sA)) mY).state=4:=by rw[Gg _ h];exact MH ..
 exact Aau i F.vQ F.vS mY oC sA h hf hp F.vW (by rw[ec];exact iD) _ Y (by rw[ec];exact Arf F rK (Agn ..) hn hl) (JU i mY oC sA) (by rw[ec];rfl) etJ (by rw[eJ];exact MV mD d6) (by rw[eJ];exact U9 mD Aa) (by rw[eJ];exact iD) (by rw[eJ];exact Lo h iD mD d6) (Q4 i mY oC sA) (by rw[eJ];rfl) hK.vS hK.place
end
def P9:Step:=⟨[],Al1⟩
def IB (i:Image) (mY:Int) (oC:Bool) (sA:Int):Int:=if GK i=false\/ ¬(0<=mY/\mY<3)then 2 else if CN (Aj i.m mY) oC sA≠0 then CN (Aj i.m mY) oC sA else if(Aj i.m mY).state≠2 then 180 else 0
def Jp (i:Image) (mY:Int) (oC:Bool) (sA:Int):Step:=if IB i mY oC sA≠0 then P9 else QV i mY oC sA
theorem O5:Aq (AV.agg (Af Atu.zero)) (AV.agg (Af (Bx P9))):=by
 refine AC ?_;exact AA
theorem Ag8 (i:Image) (hs:SmallI i) (b0:PB i.p0) (b1:PB i.p1) (b2:PB i.p2) (mY:Int) (oC:Bool) (sA:Int):A3z 20 [.agg (Af (Ao i)),.t (.int .i64 mY),.t (.bool oC),.t (.int .i64 sA)] [] (.tuple [.agg (Af (Bx (Jp i mY oC sA))),.t (.int .i64 (IB i mY oC sA))]) []:=by
 have cc:=Kf i hs;by_cases hb:GK i=false\/ ¬(0<=mY/\mY<3)
 ·have e:IB i mY oC sA=2:=WU hb;have es:Jp i mY oC sA=P9:=by unfold Jp;rw[e];rfl
  rw[e,es];generalize GK i=C at cc hb;cases C
  all_goals
   simp only[Xs,ZF,A0s]at cc;refine yF Tryz.func20 ?_
   repeat'(first|exact Au|refine yC ?_ ?_|refine⟨λh=>?_⟩|fail)
   all_goals first
    |exact Ah Y (As ⟨O5,A3l _,trivial⟩)
    |(exfalso;simp_all;done)
    |(exfalso;simp_all;omega)
 ·have hc:GK i=true:=by
   cases h:GK i with
   |true=>rfl
   |false=>exact absurd (.inl h) hb
  have ht:0<=mY/\mY<3:=Ya λh=>hb (.inr h);have F:=Amf hs b0 b1 b2 hc;rw[hc,WU Y]at cc;have cp:=Uf (Aj i.m mY) (hs.m.mY mY) oC sA;by_cases hp:CN (Aj i.m mY) oC sA=0
  ·rw[hp]at cp;by_cases h2:(Aj i.m mY).state=2
   ·have e:IB i mY oC sA=0:=by unfold IB;rw[Ug hb,Ug (λx=>x hp),Ug (λx=>x h2)]
    have es:Jp i mY oC sA=QV i mY oC sA:=by unfold Jp;rw[e];rfl
    rw[e,es];have cf:=Pt i hs;have ce:=XJ F ht hp h2;rcases AH ht with rfl|rfl|rfl
    all_goals
     simp only[Aj,Int.reduceEq,Xs,ZF]at h2;refine yF Tryz.func20 ?_
     repeat'(first|exact Au|refine yC ?_ ?_|refine⟨λh=>?_⟩|fail)
     all_goals first
      |(exfalso;omega)
      |(exfalso;simp_all;done)
      |exact Ah Y (A3m Y)
   ·have e:IB i mY oC sA=180:=by unfold IB;rw[Ug hb,Ug (λx=>x hp),WU h2]
    have es:Jp i mY oC sA=P9:=by unfold Jp;rw[e];rfl
    rw[e,es];rcases AH ht with rfl|rfl|rfl
    all_goals
     simp only[Aj,Int.reduceEq,Xs,ZF]at h2;refine yF Tryz.func20 ?_
     repeat'(first|exact Au|refine yC ?_ ?_|refine⟨λh=>?_⟩|fail)
     all_goals first
      |(exfalso;omega)
      |(exfalso;simp_all;done)
      |exact Ah Y (As ⟨O5,A3l _,trivial⟩)
  ·have e:IB i mY oC sA=CN (Aj i.m mY) oC sA:=by unfold IB;rw[Ug hb,WU hp]
   have es:Jp i mY oC sA=P9:=by unfold Jp;rw[e,WU hp]
   rw[e,es];generalize CN (Aj i.m mY) oC sA=pe at cp hp⊢;rcases AH ht with rfl|rfl|rfl
   all_goals
    refine yF Tryz.func20 ?_
    repeat'(first|exact Au|refine yC ?_ ?_|refine⟨λh=>?_⟩|fail)
    all_goals first
     |(exfalso;omega)
     |(exfalso;simp_all;done)
     |exact Ah Y (As ⟨O5,A3l _,trivial⟩)
