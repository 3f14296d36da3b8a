/- Lemmas toward the law; each names its conditions. -/
import Derived.Test.YtppffhlbcgpgdaaGreatDoorYVH
set_option linter.all false
set_option maxRecDepth 100000
set_option maxHeartbeats 8000000
namespace Go.Proofs.YtppffhlbcgpgdaaGreatDoor
open Go.Am
attribute [local irreducible] Decidable.decide
theorem Bc {i:Image} {r:Req} (hm:Fa r=true):U0 i r=match (Uz i r).e with
  |some n=>([],BO r.kind n,0)
  |none=>((Uz i r).vX,{(Uz i r).y with kind:=r.kind},0):=by
 unfold U0;rw[hm,Ug Ae];rfl
structure SameT (s s':MState):Prop where
 vP:s'.vP=s.vP
 lO: ∀t,(0<=t/\t<3)->(Aj s' t).lO=(Aj s t).lO
 lT: ∀t,(0<=t/\t<3)->(Aj s' t).lT=(Aj s t).lT
theorem Pj {s s':MState} (h:SameT s s') (lO:Int):QH s' lO=QH s lO:=by
 have e: ∀t,(0<=t/\t<3)->Ms s' lO t=Ms s lO t:=λt ht=>by unfold Ms;rw[h.lO t ht]
 unfold QH;rw[e 0 Aa,e 1 Aa,e 2 Aa]
theorem Eo {i j:Image} (h:SameT i.m j.m) (lO ep:Int) (vV:Bool):F7 j lO ep vV=F7 i lO ep vV/\Fi j lO ep vV=Fi i lO ep vV:=by
 have e1:=Pj h lO
 have e2:XM j lO=XM i lO:=by
  unfold XM;rw[e1]
  cases ho:QH i.m lO with
  |none=>rfl
  |some t=>exact h.lT t (XU ho).1
 have e3:F7 j lO ep vV=F7 i lO ep vV:=by unfold F7;rw[e1,e2,h.vP]
 refine⟨e3,?_⟩;unfold Fi;rw[e3,e1]
theorem Pd {n:Nat} {K:Image} (h:Pre n K):SameT K.m (Tu K).m:=by
 refine⟨Y,λt ht=>?_,λt ht=>?_⟩
 ·rw[Ro K ht];exact(Lh h ht).2.1
 ·rw[Ro K ht];exact(Lh h ht).2.2.1
theorem Le {n:Nat} {i:Image} (h:Rch n i) (hn:n<=880) {r:Req} (hm:Fa r=true) (hk:r.kind=2) (hy:(U0 i r).2.1.e=0):U0 (Aqe i (U0 i r).1) r=([],(U0 i r).2.1,0):=by
 have hq:0<=r.part/\r.part<3:=by
  have hr:B8 r=true:=by unfold Fa at hm;simp only[Qp]at hm;exact hm.1
  unfold B8 at hr;simp only[hk,Int.reduceEq,Xs,ZF,Qp,Uj]at hr;omega
 have lZ:r.part=0\/r.part=1\/r.part=2:=Aa;have e0: ∀x,Uz x r=Aas x r:=λx=>by unfold Uz;simp only[hk,Int.reduceEq,Xs,ZF]
 have hE:=Bc (i:=i) hm;rw[e0]at hE;rw[hE]at hy⊢;by_cases hw:F7 i r.b.lO r.b.lT r.b.vV=0
 ·by_cases hp:(Aa5 i.vQ r.part (A5 i r.part) r.b).e=0
  ·by_cases hz:(Aa5 i.vQ r.part (A5 i r.part) r.b).w=[]
   ·have e1:Aas i r=⟨[],T1 (Aa5 i.vQ r.part (A5 i r.part) r.b).s6,none⟩:=by
     unfold Aas;rw[Ug (λx=>x hw),Ug (λx=>x hp),WU hz]
    rw[e1];show U0 i r=_;rw[hE,e1]
   ·have e1:Aas i r=⟨[⟨(Aa5 i.vQ r.part (A5 i r.part) r.b).w,Tu (CP i r.part (Aa5 i.vQ r.part (A5 i r.part) r.b).part)⟩],T1 (Aa5 i.vQ r.part (A5 i r.part) r.b).s6,none⟩:=by
     unfold Aas;rw[Ug (λx=>x hw),Ug (λx=>x hp),Ug hz]
    rw[e1];show U0 (Tu (CP i r.part (Aa5 i.vQ r.part (A5 i r.part) r.b).part)) r=_;have hK:=X6 h Aa lZ hw hp
    have hs:SameT i.m (Tu (CP i r.part (Aa5 i.vQ r.part (A5 i r.part) r.b).part)).m:=by
     have:=Pd hK;rw[(Ae8 i r.part _).1]at this;exact this
    have ht:(Tu (CP i r.part (Aa5 i.vQ r.part (A5 i r.part) r.b).part)).vQ=i.vQ:=(Ae8 ..).2
    have jX:A5 (Tu (CP i r.part (Aa5 i.vQ r.part (A5 i r.part) r.b).part)) r.part=(Aa5 i.vQ r.part (A5 i r.part) r.b).part:=by
     have:A5 (Tu (CP i r.part (Aa5 i.vQ r.part (A5 i r.part) r.b).part)) r.part=A5 (CP i r.part (Aa5 i.vQ r.part (A5 i r.part) r.b).part) r.part:=Afk _ _ _ _ lZ;rw[this,NF i lZ lZ,WU Y]
    have oW:=Azp hp;rw[Bc hm,e0];unfold Aas;rw[(Eo hs _ _ _).1,Ug (λx=>x hw),ht,jX,oW];simp
  ·exfalso
   have e1:Aas i r=Q8 (Aa5 i.vQ r.part (A5 i r.part) r.b).e:=by
    unfold Aas;rw[Ug (λx=>x hw),WU hp]
   rw[e1]at hy;exact hp hy
 ·exfalso
  have e1:Aas i r=Q8 (F7 i r.b.lO r.b.lT r.b.vV):=by
   unfold Aas;rw[WU hw]
  rw[e1]at hy;exact hw hy
theorem Pk (s:MState) (g q n:Int):(Hw s g q n).vP=s.vP:=by
 unfold Hw;repeat' split
 all_goals rfl
theorem Dm: ∀(l:List Pend) (s:MState),(CQ s l).vP=s.vP
 |[],_=>rfl
 |p::r,s=>(Dm r (Hw s p.sZ p.part p.offset)).trans (Pk ..)
theorem Bl (s:MState) (t:Int) (c:Coord):(AO s t c).vP=s.vP:=by
 unfold AO;repeat' split
 all_goals rfl
theorem Pn {n:Nat} {i:Image} (h:Rch n i) (hn:n<=900) {T:Int} (ht:0<=T/\T<3) (h2:(Aj i.m T).state=2) {oC:Bool} {sA:Int} (hp:CN (Aj i.m T) oC sA=0):(QV i T oC sA).i.m.vP=i.m.vP/\(∀t,(0<=t/\t<3)->(Aj (QV i T oC sA).i.m t).lO=(Aj i.m t).lO/\(t≠T->(Aj (QV i T oC sA).i.m t).lT=(Aj i.m t).lT))/\(Aj (QV i T oC sA).i.m T).lT=(Aj i.m T).lT+if 0<sA then 1 else 0:=by
 have m9:=(CZ h.vT.vW).mY T;obtain⟨_,hf,hx⟩:=MI hp;have hK:=Ap2 h hn ht hp h2;have em:(Q4 i T oC sA).m=DY (AO i.m T (Dd (Aj i.m T) oC sA)) T:=rfl;have hc:=MV (J2 m9 h2 hf hx) (MH ..)
 have ek: ∀t,(0<=t/\t<3)->Aj (Q4 i T oC sA).m t=if t=T then C3 (Dd (Aj i.m T) oC sA)else Aj i.m t:=λt d5=>by
  rw[em,TX _ ht d5];by_cases e:t=T
  ·rw[WU e,WU e,Gg _ ht]
  ·rw[Ug e,Ug e,O4 _ ht d5 e]
 have ec:(C3 (Dd (Aj i.m T) oC sA)).lO=(Aj i.m T).lO/\(C3 (Dd (Aj i.m T) oC sA)).lT=(Aj i.m T).lT+if 0<sA then 1 else 0:=by
  unfold C3;rw[Ug (λx=>x hc)];by_cases h0:0<sA
  ·rw[WU (show 0<(Dd (Aj i.m T) oC sA).sA from h0),WU h0];exact⟨Y,Y⟩
  ·rw[Ug (show ¬0<(Dd (Aj i.m T) oC sA).sA from h0),Ug h0];exact⟨Y,(Int.add_zero _).symm⟩
 have e: ∀t,(0<=t/\t<3)->Aj (QV i T oC sA).i.m t=F1 (Q4 i T oC sA) t:=λt d5=>Ro _ d5;refine⟨?_,λt d5=>⟨?_,λaE=>?_⟩,?_⟩
 ·show(Q4 i T oC sA).m.vP=_;rw[em];unfold DY;split
  ·rw[Dm,Bl,Bl]
  ·rw[Bl,Bl]
 ·rw[e t d5,(Lh hK d5).2.1,ek t d5];split
  ·rename_i e1;rw[ec.1,e1]
  ·rfl
 ·rw[e t d5,(Lh hK d5).2.2.1,ek t d5,Ug aE]
 ·rw[e T ht,(Lh hK ht).2.2.1,ek T ht,WU Y];exact ec.2
theorem Hk {r:Req} (hm:Fa r=true) (hk:r.kind=4):Fa {r with oC:= !r.oC}=true:=by
 unfold Fa at hm⊢;simp only[Qp,Uj]at hm⊢;obtain⟨h1,h2⟩:=hm;refine⟨?_,?_⟩
 ·simp only[B8,hk,Int.reduceEq,Xs,ZF]at h1⊢;exact h1
 ·simp only[VQ,hk,Int.reduceEq,Xs,ZF]at h2⊢;obtain⟨k,t,tm,p,e,pa,g,o,m,y,b⟩:=r;simp only[Apx,Req.mk.injEq]at h2 hk⊢
  simp_all
  try omega
theorem Nl {c:Coord} {oC:Bool} (h:MU c oC=true):MU c (!oC)=false/\c.state≠2:=by
 unfold MU at h⊢;cases oC<;>simp_all
theorem Ea {n:Nat} {i:Image} (h:Rch n i) {r:Req} (hm:Fa r=true) (hk:r.kind=4) (hw:F7 i r.lO r.lT true=0) (he:MU (Aj i.m (Fi i r.lO r.lT true)) r.oC=true):U0 i r=([],{BO 0 0 with kind:=4},0)/\(U0 i {r with oC:= !r.oC}).2.1.e=180:=by
 have e0: ∀x:Req,x.kind=4->Uz i x=Amy i x:=λx hx=>by unfold Uz;simp only[hx,Int.reduceEq,Xs,ZF]
 constructor
 ·rw[Bc hm,e0 r hk];unfold Amy;rw[Ug (λx=>x hw),WU he,hk]
 ·have fN:=Hk hm hk;rw[Bc fN,e0 {r with oC:= !r.oC} hk];obtain⟨q1,q2⟩:=Nl he;have hT:=(LD hw).1
  have e1:Amy i {r with oC:= !r.oC}=Q8 180:=by
   unfold Amy;simp only;rw[Ug (λx=>x hw),Ug (by rw[q1];decide)];have hf:=Aj0 h hT (!r.oC);rw[Ug q2]at hf;rw[YH (by rw[hf];decide),hf]
  rw[e1];rfl
theorem Od {n:Nat} {i:Image} (h:Rch n i) (hn:n<=880) {r:Req} (hm:Fa r=true) (hk:r.kind=4) (hy:(U0 i r).2.1.e=0):U0 (Aqe i (U0 i r).1) r=([],(U0 i r).2.1,0)/\(U0 (Aqe i (U0 i r).1) {r with oC:= !r.oC}).2.1.e=180:=by
 have e0: ∀x,Uz x r=Amy x r:=λx=>by unfold Uz;simp only[hk,Int.reduceEq,Xs,ZF]
 by_cases hw:F7 i r.lO r.lT true=0
 ·obtain⟨hT,n7,qL,rU⟩:=LD hw;by_cases he:MU (Aj i.m (Fi i r.lO r.lT true)) r.oC=true
  ·obtain⟨q1,q2⟩:=Ea h hm hk hw he;rw[q1];exact⟨q1,q2⟩
  ·have e1:Amy i r=Are i (Fi i r.lO r.lT true) r.oC 0 (λ_=>BO 0 0):=by
    unfold Amy;rw[Ug (λx=>x hw),Ug he]
   by_cases hz:IB i (Fi i r.lO r.lT true) r.oC 0=0
   ·have hf:=Aj0 h hT r.oC
    have h2:(Aj i.m (Fi i r.lO r.lT true)).state=2:=by
     refine Ya λhx=>?_;rw[Ug hx,hz]at hf;cases hf
    have es:Jp i (Fi i r.lO r.lT true) r.oC 0=QV i (Fi i r.lO r.lT true) r.oC 0:=by unfold Jp;rw[Ug (λx=>x hz)]
    have ep:U0 i r=([QV i (Fi i r.lO r.lT true) r.oC 0],{BO 0 0 with kind:=4},0):=by
     rw[Bc hm,e0,e1,UT hz,es,hk]
    rw[ep];show U0 (QV i (Fi i r.lO r.lT true) r.oC 0).i r=_/\(U0 (QV i (Fi i r.lO r.lT true) r.oC 0).i _).2.1.e=180;have hR:=Aka h Aa hz;rw[es]at hR;have m9:=(CZ h.vT.vW).mY (Fi i r.lO r.lT true)
    have qK:CN (Aj i.m (Fi i r.lO r.lT true)) r.oC 0=0:=by
     rw[Afi m9 h2,Ug (λx=>x ⟨Ae,λ_=>rfl⟩),Ug Aa]
    obtain⟨f1,f2,f3⟩:=Pn h Aa hT h2 qK
    have hs:SameT i.m (QV i (Fi i r.lO r.lT true) r.oC 0).i.m:=⟨f1,λt ht=>(f2 t ht).1,λt ht=>by
     by_cases e:t=Fi i r.lO r.lT true
     ·rw[e,f3];simp
     ·exact(f2 t ht).2 e⟩
    obtain⟨w1,w2⟩:=Eo hs r.lO r.lT true;exact Ea hR hm hk (w1.trans hw) (by rw[w2];exact(Afq h Aa hT h2 r.oC).2)
   ·exfalso;rw[Bc hm,e0,e1,YH hz]at hy;exact hz hy
 ·exfalso;have e1:Amy i r=Q8 (F7 i r.lO r.lT true):=by unfold Amy;rw[WU hw]
  rw[Bc hm,e0,e1]at hy;exact hw hy
theorem Gw {s:MState} (hm:Bv s=true) {t:Int} (ht:0<=t/\t<3):(Aj s t).lO<=s.vP/\s.vP<=8:=by
 simp only[Bv,Qp,Uj]at hm;refine⟨?_,hm.1.2⟩;rcases AH ht with rfl|rfl|rfl
 ·have:=hm.2.1.2;show s.t0.lO<=_;omega
 ·have:=hm.2.2.1.2;show s.t1.lO<=_;omega
 ·have:=hm.2.2.2.1.2;show s.t2.lO<=_;omega
theorem Cg {r:Req} (hm:Fa r=true) (hk:r.kind=1):(0<=r.mY/\r.mY<3)/\(1<=r.mZ/\r.mZ<=20):=by
 have hr:B8 r=true:=by unfold Fa at hm;simp only[Qp]at hm;exact hm.1
 unfold B8 at hr;simp only[hk,Int.reduceEq,Xs,ZF,Uj]at hr;omega
theorem Ph {n:Nat} {j:Image} (h:Rch n j) {r:Req} (hm:Fa r=true) (hk:r.kind=1) (h1:(Aj j.m r.mY).state=1):(U0 j r).2.2=0/\((U0 j r).2.1.e=102\/((U0 j r).2.1.lO=(Aj j.m r.mY).lO/\(U0 j r).2.1.lT=(Aj j.m r.mY).lT+1)):=by
 obtain⟨hT,ht⟩:=Cg hm hk
 have e0:Uz j r=Af5 j (e1 r.mY r.mZ) (ZJ r.mY r.mZ) (λL=>W5 L r.mY):=by
  have:Uz j r=Alz j r:=by unfold Uz;simp only[hk,Int.reduceEq,Xs,ZF]
  rw[this];unfold Alz;rw[Ug Aa]
 have m9:=(CZ h.vT.vW).mY r.mY;have rS:=Gw h.vT.vW hT;obtain⟨_,vN⟩:=(Fb (.inl h1)).1 m9;have dG:=(Ce.1 vN).2.1.1
 have hn:Ej j.m (e1 r.mY r.mZ)=EP (Aj j.m r.mY) (Aj j.m r.mY).lO r.mZ:=by
  rw[Se (.inr (.inl Y)) h.vT.vW (NQ hT ht)];have ev:J4 j.m (e1 r.mY r.mZ)=(if 8<(if(Aj j.m r.mY).state=0 then j.m.vP+1 else(Aj j.m r.mY).lO)then(102:Int)else EP (Aj j.m r.mY) (if(Aj j.m r.mY).state=0 then j.m.vP+1 else(Aj j.m r.mY).lO) r.mZ):=rfl;rw[ev,Ug (show ¬(Aj j.m r.mY).state=0 from Aa),Ug Aa]
 have hi:EP (Aj j.m r.mY) (Aj j.m r.mY).lO r.mZ=if 100<=(Aj j.m r.mY).lT then 102 else 0:=by
  have hb:Ci (Aj j.m r.mY).state 0=true:=by rw[h1];decide+kernel
  unfold EP ER;rw[A32 (show(1<=(Aj j.m r.mY).lO/\(Aj j.m r.mY).lO<=8)/\(1<=r.mZ/\r.mZ<=20)from⟨dG,ht⟩),m9,hb];simp
 by_cases uI:100<=(Aj j.m r.mY).lT
 ·rw[WU uI]at hi
  have hb:Af5 j (e1 r.mY r.mZ) (ZJ r.mY r.mZ) (λL=>W5 L r.mY)=Q8 102:=by
   rw[NI (by rw[hn,hi];decide),hn,hi]
  rw[Bc hm,e0,hb];exact⟨Y,.inl Y⟩
 ·rw[Ug uI]at hi;have hz:Ej j.m (e1 r.mY r.mZ)=0:=hn.trans hi;have hK:=At1 h hT hz;rw[Bc hm,e0,LM hz];refine⟨Y,.inr ?_⟩;have hp:=Lh hK hT
  have et:Aj (HF j.m (e1 r.mY r.mZ)) r.mY=⟨1,(Aj j.m r.mY).lO,(Aj j.m r.mY).lT+1,r.mZ,0,[],[],0⟩:=by
   have es:EZ j.m (e1 r.mY r.mZ)=if(Aj j.m r.mY).state=0 then DO (AO j.m r.mY (Ek (Aj j.m r.mY) (j.m.vP+1) r.mZ)) (j.m.vP+1)else AO j.m r.mY (Ek (Aj j.m r.mY) (Aj j.m r.mY).lO r.mZ):=rfl
   rw[(I1 hz).2.2.2.2,es,Ug (show ¬(Aj j.m r.mY).state=0 from Aa),Gg _ hT,J9 hi,Ug (show ¬(Aj j.m r.mY).state=0 from Aa)]
  have ep:Aj (Ako j (e1 r.mY r.mZ)).m r.mY=F1 (Dy j (HF j.m (e1 r.mY r.mZ))) r.mY:=Ro _ hT;have e2:Aj (Dy j (HF j.m (e1 r.mY r.mZ))).m r.mY=⟨1,(Aj j.m r.mY).lO,(Aj j.m r.mY).lT+1,r.mZ,0,[],[],0⟩:=et;refine⟨?_,?_⟩
  ·show(Aj (Ako j (e1 r.mY r.mZ)).m r.mY).lO=_;rw[ep,hp.2.1,e2]
  ·show(Aj (Ako j (e1 r.mY r.mZ)).m r.mY).lT=_;rw[ep,hp.2.2.1,e2]
theorem VH {n:Nat} {j:Image} (h:Rch n j) {T:Int} (hT:0<=T/\T<3) (h1:1<=(Aj j.m T).lO):F7 j (Aj j.m T).lO ((Aj j.m T).lT-1) true=100:=by
 have rS:=Gw h.vT.vW hT;have ho:=Aul h.vT.vW hT h1 Y;unfold F7;rw[ho];rw[Ug (by simp;omega)];have e:XM j (Aj j.m T).lO=(Aj j.m T).lT:=by unfold XM;rw[ho]
 rw[e,WU Aa]
structure InitOk (i j:Image) (r:Req) (y:Reply):Prop where
 lO:y.lO=(Aj j.m r.mY).lO
 lT:y.lT=(Aj j.m r.mY).lT
 one:1<=(Aj j.m r.mY).lO
 state:(Aj j.m r.mY).state=1
theorem Kn {n:Nat} {i:Image} (h:Rch n i) (hn:n<=880) {r:Req} (hm:Fa r=true) (hk:r.kind=1) (hy:(U0 i r).2.1.e=0) (hep:(U0 i r).2.1.lT≠0):InitOk i (Aqe i (U0 i r).1) r (U0 i r).2.1:=by
 obtain⟨hT,ht⟩:=Cg hm hk;have m9:=(CZ h.vT.vW).mY r.mY;have e0:Uz i r=Alz i r:=by unfold Uz;simp only[hk,Int.reduceEq,Xs,ZF]
 by_cases h2:(Aj i.m r.mY).state=2
 ·have e1:Alz i r=Are i r.mY false r.mZ (λL=>W5 L r.mY):=by unfold Alz;rw[WU h2]
  by_cases hz:IB i r.mY false r.mZ=0
  ·have es:Jp i r.mY false r.mZ=QV i r.mY false r.mZ:=by unfold Jp;rw[Ug (λx=>x hz)]
   have hp:CN (Aj i.m r.mY) false r.mZ=0:=by
    unfold IB at hz;split at hz
    ·cases hz
    ·split at hz
     ·rename_i h4;exact absurd hz h4
     ·rename_i h4;exact A34.1 h4
   rw[Bc hm,e0,e1,UT hz,es];obtain⟨q1,q2,q3⟩:=Aj1 h Aa hT h2 hp
   have ec:C3 (Dd (Aj i.m r.mY) false r.mZ)=⟨1,(Aj i.m r.mY).lO,(Aj i.m r.mY).lT+1,r.mZ,0,[],[],0⟩:=by
    unfold C3;rw[Ug (λx=>x q3),WU (show 0<(Dd (Aj i.m r.mY) false r.mZ).sA by show 0<r.mZ;omega)];rfl
   have ef:Aj (QV i r.mY false r.mZ).i.m r.mY=⟨1,(Aj i.m r.mY).lO,(Aj i.m r.mY).lT+1,r.mZ,0,[],[],0⟩:=by
    rw[q1];rw[ec]at q2⊢;unfold DT;rw[Ug (λx=>x q2)];simp
   have dG:=(Ce.1 ((Ko h2).1 m9).2.2).2.1.1;refine⟨Y,Y,?_,?_⟩
   ·show 1<=(Aj (QV i r.mY false r.mZ).i.m r.mY).lO;rw[ef];exact dG.1
   ·show(Aj (QV i r.mY false r.mZ).i.m r.mY).state=1;rw[ef]
  ·exfalso;rw[Bc hm,e0,e1,YH hz]at hy;exact hz hy
 ·have e1':Alz i r=Af5 i (e1 r.mY r.mZ) (ZJ r.mY r.mZ) (λL=>W5 L r.mY):=by unfold Alz;rw[Ug h2]
  by_cases hz:Ej i.m (e1 r.mY r.mZ)=0
  ·have hK:=At1 h hT hz;have hp:=Lh hK hT;have ep:Aj (Ako i (e1 r.mY r.mZ)).m r.mY=F1 (Dy i (HF i.m (e1 r.mY r.mZ))) r.mY:=Ro _ hT;have es:EZ i.m (e1 r.mY r.mZ)=if(Aj i.m r.mY).state=0 then DO (AO i.m r.mY (Ek (Aj i.m r.mY) (i.m.vP+1) r.mZ)) (i.m.vP+1)else AO i.m r.mY (Ek (Aj i.m r.mY) (Aj i.m r.mY).lO r.mZ):=rfl
   have ev:J4 i.m (e1 r.mY r.mZ)=(if 8<(if(Aj i.m r.mY).state=0 then i.m.vP+1 else(Aj i.m r.mY).lO)then(102:Int)else EP (Aj i.m r.mY) (if(Aj i.m r.mY).state=0 then i.m.vP+1 else(Aj i.m r.mY).lO) r.mZ):=rfl;have hv:=(I1 hz).2.2.1;have en:=(I1 hz).2.2.2.2;rw[Bc hm,e0,e1',LM hz]at hep⊢;have hep:(Aj (Ako i (e1 r.mY r.mZ)).m r.mY).lT≠0:=hep;by_cases h0:(Aj i.m r.mY).state=0
   ·exfalso;rw[ev,WU h0]at hv;rw[ep,hp.2.2.1]at hep;split at hv
    ·cases hv
    have et:Aj (Dy i (HF i.m (e1 r.mY r.mZ))).m r.mY=⟨1,i.m.vP+1,0,r.mZ,0,[],[],0⟩:=by
     show Aj (HF i.m (e1 r.mY r.mZ)) r.mY=_;rw[en,es,WU h0];have:Aj (DO (AO i.m r.mY (Ek (Aj i.m r.mY) (i.m.vP+1) r.mZ)) (i.m.vP+1)) r.mY=Aj (AO i.m r.mY (Ek (Aj i.m r.mY) (i.m.vP+1) r.mZ)) r.mY:=rfl;rw[this,Gg _ hT,J9 hv,WU h0]
    rw[et]at hep;exact hep Y
   ·rw[ev,Ug h0]at hv;split at hv
    ·cases hv
    have et:Aj (Dy i (HF i.m (e1 r.mY r.mZ))).m r.mY=⟨1,(Aj i.m r.mY).lO,(Aj i.m r.mY).lT+1,r.mZ,0,[],[],0⟩:=by
     show Aj (HF i.m (e1 r.mY r.mZ)) r.mY=_;rw[en,es,Ug h0,Gg _ hT,J9 hv,Ug h0]
    obtain⟨_,cL,_,dG,_⟩:=Sw hv;have h156:(Aj i.m r.mY).state=1\/(Aj i.m r.mY).state=5\/(Aj i.m r.mY).state=6:=Aa;have oW:=((Fb h156).1 m9).1.2.2.1
    have hw:BF (Dy i (HF i.m (e1 r.mY r.mZ))) (Aj i.m r.mY).lO=[]:=by
     rw[<-oW];exact(h.parts r.mY hT).symm
    refine⟨Y,Y,?_,?_⟩
    ·show 1<=(Aj (Ako i (e1 r.mY r.mZ)).m r.mY).lO;rw[ep,hp.2.1,et];exact dG.1
    ·show(Aj (Ako i (e1 r.mY r.mZ)).m r.mY).state=1;rw[ep];have hme:=(CZ hK.vW).mY r.mY;unfold F1;rw[et]at hme⊢
     have kW:H4 (⟨1,(Aj i.m r.mY).lO,(Aj i.m r.mY).lT+1,r.mZ,0,[],[],0⟩:Coord) (BF (Dy i (HF i.m (e1 r.mY r.mZ))) (Aj i.m r.mY).lO)=0:=by
      rw[hw];unfold H4;rw[hme];simp[CD,Gk]
     unfold DT;rw[Ug (λx=>x kW),hw];simp
  ·exfalso;rw[Bc hm,e0,e1',NI hz]at hy;exact hz hy
theorem M3 {n:Nat} {i:Image} (h:Rch n i) (hn:n<=870) {r:Req} (hm:Fa r=true) (hk:r.kind=1) (hy:(U0 i r).2.1.e=0) (hep:(U0 i r).2.1.lT≠0):F7 (Aqe i (U0 i r).1) (U0 i r).2.1.lO ((U0 i r).2.1.lT-1) true=100/\(U0 (Aqe i (U0 i r).1) r).2.2=0/\((U0 (Aqe i (U0 i r).1) r).2.1.e=102\/((U0 (Aqe i (U0 i r).1) r).2.1.lO=(U0 i r).2.1.lO/\(U0 (Aqe i (U0 i r).1) r).2.1.lT=(U0 i r).2.1.lT+1))/\0<=(U0 i r).2.1.lT/\(U0 i r).2.1.lT<=100:=by
 have hI:=Kn h Aa hm hk hy hep;have hj:=A14 h Aa r;obtain⟨q1,q2⟩:=Ph hj hm hk hI.state;rw[hI.lO,hI.lT];exact⟨VH hj (Cg hm hk).1 hI.one,q1,q2,(Ce.1 ((Fb (.inl hI.state)).1 ((CZ hj.vT.vW).mY r.mY)).2).2.1.2.1⟩
theorem Nc {i:Image} {r:Req} (hk:r.kind=2\/r.kind=4):(U0 i r).2.1.rows=[]:=by
 unfold U0;split
 ·rfl
 ·cases he:(Uz i r).e with
  |some m=>rfl
  |none=>
   show(Uz i r).y.rows=[];unfold Uz;rcases hk with hk|hk
   all_goals simp only[hk,Int.reduceEq,Xs,ZF]
   ·unfold Aas;repeat' split
    all_goals rfl
   ·unfold Amy;repeat' split
    all_goals first
     |rfl
     |(unfold Are;split<;>rfl)
theorem Bk {i:Image} {r:Req} (h:(U0 i r).2.2=0):Fa r=true:=by
 cases hm:Fa r with
 |true=>rfl
 |false=>
  exfalso;unfold U0 at h;rw[hm,WU Y]at h;cases h
end Go.Proofs.YtppffhlbcgpgdaaGreatDoor
namespace Go.Proofs.YtppffhlbcgpgdaaGreatDoor
open Go.Am
attribute [local irreducible] Decidable.decide Tr A6 CG EJ
theorem Bj (y:Reply) (hl:y.rows.length<=1000000):A3z 15 [.agg (Af (Bw y)),.agg (Af (Bw y))] [] (.t (.bool true)) []:=by
 have aQ:(y.rows.map Aw).length=y.rows.length:=Ts ..;refine yF Tryz.func15 ?_
 repeat'(first|exact Au|refine yC ?_ ?_|refine⟨λh=>?_⟩|refine BA 6 10 ?_|fail)
 all_goals try(exfalso;simp_all;done)
 refine AW (ι:=Nat) (λi=>i<=y.rows.length) (λi=>[(2,.ref 4 0),(3,.ref 6 0),(5,.t (.int .i64 i))]) (λ_=>[(6,.cells (Af (Bw y))),(4,.cells (Af (Bw y)))]) (λi=>y.rows.length-i) 0 Ac ?_ ?_
 ·exact Bb [] Aa6 Y
 rintro i hi;by_cases aC:i<y.rows.length
 ·have hr:y.rows[i]?=some y.rows[i]:=Kv aC;generalize y.rows[i]=c at hr
  repeat'(first|exact Au|refine yC ?_ ?_|refine⟨λh=>?_⟩|refine BA 6 10 ?_|fail)
  all_goals first
   |(refine AM (i+1) aC Aa [] (Ag Y Y (Ag Y Y (Ag Y (by rw[A1 Aa Aa];rfl) A8))) Y)
   |(exfalso;simp_all;done)
   |(exfalso;omega)
 ·repeat'(first|exact Au|refine yC ?_ ?_|refine⟨λh=>?_⟩|refine BA 6 10 ?_|fail)
  all_goals first
   |exact Ah Y (A3m Y)
   |(exfalso;omega)
theorem A85 (cw:A3z 9 [] [] (.t (.bool true)) []) (b:Bool) (l:List Req) (r:Req) (hg: ¬(((l.length<=100/\ ∀r∈l,r.b.rZ.length<=60)/\r.b.rZ.length<=60)/\(r.kind=2\/r.kind=4\/r.kind=1))):A3z 4 [.t (.bool b),.t (.slice .any 15 (l.map A7)),.agg (Af (A7 r))] [] (.t (.bool true)) []:=by
 refine yF Tryz.func4 ?_
 repeat'(first|exact Au|refine A6q 44 ?_|refine yC ?_ ?_|refine⟨λh=>?_⟩|refine JO Ai [] [] Y Y Y Y Y (Aoq l) Y (λ_ _=>rfl) (λ_ _=>rfl) (λ_ _=>rfl) (λj hj=>?_)|refine JO Ai [] [] Y Y Y Y Y (Aop r) Y (λ_ _=>rfl) (λ_ _=>rfl) (λ_ _=>rfl) (λj hj=>?_)|fail)
 all_goals first
  |exact Ah Y (A3m Y)
  |(exfalso;simp_all;done)
  |(exfalso;simp_all;omega)
set_option maxHeartbeats 16000000 in
theorem A84 (cw:A3z 9 [] [] (.t (.bool true)) []) (b:Bool) (l:List Req) (r:Req) (hk:r.kind=2\/r.kind=4\/r.kind=1) (I J:Image) (L L2 L3:List Step) (y y2 y3:Reply) (e3:Int) (hy:y.e=0) (cb:A3z 10 [.t (.int .i8 (if b=true then 1 else 0)),.t (.slice .any 15 (l.map A7))] [] (.tuple [.agg (Af (Ao I)),.t (.bool true)]) []) (cp:A3z 11 [.agg (Af (Ao I)),.agg (Af (A7 r))] [] (.tuple [.t (.slice .any 48 (L.map Bx)),.agg (Af (Bw y)),.t (.int .i64 0)]) []) (cp2:A3z 11 [.agg (Af (Ao J)),.agg (Af (A7 r))] [] (.tuple [.t (.slice .any 48 (L2.map Bx)),.agg (Af (Bw y2)),.t (.int .i64 0)]) []) (cp3:A3z 11 [.agg (Af (Ao J)),.agg (Af (A7 {r with oC:= !r.oC}))] [] (.tuple [.t (.slice .any 48 (L3.map Bx)),.agg (Af (Bw y3)),.t (.int .i64 e3)]) []) (h4:L.length<=4) (hLJ:(L.length=0/\J=I)\/ ∃s,0<L.length/\L[L.length-1]?=some s/\J=s.i) (h2:r.kind≠1->L2.length=0/\y2=y) (h180:r.kind=4->y3.e=180) (hrw:r.kind=2\/r.kind=4->y.rows=[]) (dD:r.kind=1->y.lT≠0->(∃t:Int,A3z 16 [.agg (Af (Ao J)),.t (.int .i64 y.lO),.t (.int .i64 (y.lT-1)),.t (.bool true)] [] (.tuple [.t (.int .i64 t),.t (.int .i64 100)]) [])/\(y2.e=102\/(y2.lO=y.lO/\y2.lT=y.lT+1))/\0<=y.lT/\y.lT<=100):A3z 4 [.t (.bool b),.t (.slice .any 15 (l.map A7)),.agg (Af (A7 r))] [] (.t (.bool true)) []:=by
 have aQ:(L.map Bx).length=L.length:=Ts ..;have nC:(L2.map Bx).length=L2.length:=Ts ..;refine yF Tryz.func4 ?_
 repeat'(first|exact Au|refine hold 1 ?_|refine yC ?_ ?_|refine⟨λh=>?_⟩|fail)
 refine Hold.mk ?_;refine Ai2 (ι:=Bool) (λ_=>True) (λv=>[(0,.t (.bool b)),(1,.t (.slice .any 15 (l.map A7))),(5,.ref 10 0),(42,.t (.bool v))]) (λ_=>[(10,.cells (Af (A7 r)))]) (λ_ _ h=>h) ?_ ?_
 ·repeat'(first|exact Au|refine yC ?_ ?_|refine⟨λh=>?_⟩|refine JO Ai [] [] Y Y Y Y Y (Aoq l) Y (λ_ _=>rfl) (λ_ _=>rfl) (λ_ _=>rfl) (λj hj=>?_)|refine JO Ai [] [] Y Y Y Y Y (Aop r) Y (λ_ _=>rfl) (λ_ _=>rfl) (λ_ _=>rfl) (λj hj=>?_)|fail)
  all_goals first
   |(exfalso;omega)
   |exact Aaw _ trivial [] Aa6 Y
 rintro v _
 repeat'(first|exact Au|refine A6q 44 ?_|refine yC ?_ ?_|refine⟨λh=>?_⟩|fail)
 all_goals try(exact Ah Y (A3m Y))
 refine Hold.mk ?_;refine Ai2 (ι:=Unit) (λ_=>True) (λ_=>[(1,.t (.slice .any 15 (l.map A7))),(5,.ref 10 0),(7,.t (.int .i8 (if b=true then 1 else 0)))]) (λ_=>[(10,.cells (Af (A7 r)))]) (λ_ _ h=>h) ?_ ?_
 ·repeat'(first|exact Au|refine yC ?_ ?_|refine⟨λh=>?_⟩|fail)
  all_goals first
   |exact Aaw () trivial [] (Ag Y Y (Ag Y Y (Ag Y (by simp_all) A8))) Y
 rintro _ _
 repeat'(first|exact Au|refine hold 10 ?_|refine yC ?_ ?_|refine⟨λh=>?_⟩|fail)
 all_goals try(exfalso;simp_all;done)
 refine Hold.mk ?_;refine Ai2 (ι:=Bool) (λ_=>True) (λv=>[(5,.ref 10 0),(8,.ref 16 0),(10,.t (.slice .any 48 (L.map Bx))),(11,.ref 22 0),(66,.t (.bool v))]) (λ_=>[(22,.cells (Af (Bw y))),(16,.cells (Af (Ao I))),(10,.cells (Af (A7 r)))]) (λ_ _ h=>h) ?_ ?_
 ·repeat'(first|exact Au|refine yC ?_ ?_|refine⟨λh=>?_⟩|fail)
  all_goals first
   |exact Aaw _ trivial [] Aa6 Y
 rintro v2 _
 repeat'(first|exact Au|refine A6q 71 ?_|refine yC ?_ ?_|refine⟨λh=>?_⟩|fail)
 all_goals try(exact Ah Y (A3m Y))
 refine Hold.mk ?_;refine Ai2 (ι:=Unit) (λ_=>True) (λ_=>[(5,.ref 10 0),(11,.ref 22 0),(13,.ref 26 0)]) (λ_=>[(26,.cells (Af (Ao J))),(22,.cells (Af (Bw y))),(10,.cells (Af (A7 r)))]) (λ_ _ h=>h) ?_ ?_
 ·rcases hLJ with⟨h0,rfl⟩|⟨s,h0,cS,rfl⟩
  ·repeat'(first|exact Au|refine yC ?_ ?_|refine⟨λh=>?_⟩|fail)
   all_goals first
    |exact Aaw () trivial [8] Aa6 Y
    |(exfalso;omega)
  ·have hw:IntKind.i64.wrap (((L.map Bx).length:Int)-1)=((L.length-1:Nat):Int):=by rw[A1 Aa Aa];omega
   repeat'(first|exact Au|rw[hw]|refine yC ?_ ?_|refine⟨λh=>?_⟩|fail)
   all_goals first
    |exact Aaw () trivial [8] Aa6 Y
    |(exfalso;omega)
 rintro _ _
 repeat'(first|exact Au|refine hold 16 ?_|refine yC ?_ ?_|refine⟨λh=>?_⟩|fail)
 refine Hold.mk ?_;have qP:0<L2.length->r.kind=1:=λhp=>Ya λh=>by have:=(h2 h).1;omega
 refine Ai2 (ι:=Bool) (λv=>v=false) (λv=>[(5,.ref 10 0),(11,.ref 22 0),(13,.ref 26 0),(15,.ref 30 0),(97,.t (.bool v))]) (λ_=>[(30,.cells (Af (Bw y2))),(26,.cells (Af (Ao J))),(22,.cells (Af (Bw y))),(10,.cells (Af (A7 r)))]) (λ_ _ h=>h) ?_ ?_
 ·repeat'(first|exact Au|refine yC ?_ ?_|refine⟨λh=>?_⟩|fail)
  all_goals first
   |(exfalso;omega)
   |(refine Aaw _ ?_ [] Aa6 Y
     first
     |rfl
     |(have g9:=qP Aa;rw[g9];simp;done)
     |(simp;done)
     |(simp;omega))
 rintro v3 hv3;subst hv3;rcases hk with hk|hk|hk
 ·obtain⟨_,rfl⟩:=h2 Aa;have crp:=Bj y2 (by rw[hrw (.inl hk)];simp)
  repeat'(first|exact Au|refine yC ?_ ?_|refine⟨λh=>?_⟩|fail)
  all_goals first
   |exact Ah Y (A3m Y)
   |(exfalso;simp_all;done)
 ·obtain⟨_,rfl⟩:=h2 Aa;have h180:=h180 hk;have crp:=Bj y2 (by rw[hrw (.inr hk)];simp);obtain⟨r1,r2,r3,r4,r5,r6,r7,r8,r9,r10,r11⟩:=r;simp only at cp3 hk;subst hk
  repeat'(first|exact Au|refine yC ?_ ?_|refine⟨λh=>?_⟩|fail)
  all_goals first
   |exact Ah Y (A3m Y)
   |(exfalso;simp_all;done)
 ·by_cases hd:y.lT=0
  ·repeat'(first|exact Au|refine yC ?_ ?_|refine⟨λh=>?_⟩|fail)
   all_goals first
    |exact Ah Y (A3m Y)
    |(exfalso;simp_all;done)
  ·obtain⟨⟨t,cwho⟩,d3,d4,d5⟩:=dD hk hd;have fF:IntKind.i64.wrap (y.lT-1)=y.lT-1:=A1 Aa Aa;have hwf:IntKind.i64.wrap (y.lT+1)=y.lT+1:=A1 Aa Aa
   repeat'(first|exact Au|rw[fF]|rw[hwf]|refine yC ?_ ?_|refine⟨λh=>?_⟩|refine BZ cwho ?_|fail)
   all_goals first
    |exact Ah Y (A3m Y)
    |(exfalso;simp_all;done)
    |(exfalso;simp_all;omega)
    |(refine Ah Y (BL ?_);simp_all;done)
set_option maxHeartbeats 16000000 in
theorem Ps (b:Bool) (l:List Req) (r:Req):A3z 4 [.t (.bool b),.t (.slice .any 15 (l.map A7)),.agg (Af (A7 r))] [] (.t (.bool true)) []:=by
 have cw:=Av2;by_cases hg:((l.length<=100/\ ∀r∈l,r.b.rZ.length<=60)/\r.b.rZ.length<=60)/\(r.kind=2\/r.kind=4\/r.kind=1)
 ·obtain⟨⟨⟨hl,oB⟩,hr60⟩,hk⟩:=hg;have ht:(if b=true then(1:Int)else 0)=0\/(if b=true then(1:Int)else 0)=1:=by cases b<;>simp
  have cb:=Avz _ ht l hl oB;have hR:=Aon ht l Aa;generalize Aif (if b=true then(1:Int)else 0) l=I at cb hR;have cp:=Aqo hR Aa r Aa;have h4:=(A2u hR Aa r).many;have hJ:=A14 hR Aa r;have cp2:=Aqo hJ Aa r Aa;have cp3:=Aqo hJ Aa {r with oC:= !r.oC} (by show r.b.rZ.length<=1000000;omega);have g9:=A2u hJ Aa r;by_cases he:(U0 I r).2.2=0/\(U0 I r).2.1.e=0
  ·obtain⟨he,hy⟩:=he;have sE:=Bk he
   have mL:(U0 (Aqe I (U0 I r).1) r).2.2=0:=Ya λx=>by
    have:=(g9.bad x).1;rw[sE]at this;cases this
   rw[he]at cp;rw[mL]at cp2
   have hLJ:((U0 I r).1.length=0/\Aqe I (U0 I r).1=I)\/ ∃s,0<(U0 I r).1.length/\(U0 I r).1[(U0 I r).1.length-1]?=some s/\Aqe I (U0 I r).1=s.i:=by
    unfold Aqe
    cases hL:(U0 I r).1.getLast? with
    |none=>exact .inl ⟨by rw[A6e.1 hL];rfl,Y⟩
    |some s=>
     obtain⟨a,ha⟩:=A7x.1 hL;exact .inr ⟨s,by rw[ha];simp,by rw[ha];simp,Y⟩
   refine A84 cw b l r hk I (Aqe I (U0 I r).1) _ _ _ _ _ _ _ hy cb cp cp2 cp3 h4 hLJ (λh1=>?_) (λh=>(Od hR Aa sE h hy).2) (λk=>Nc k) (λh1 hd=>?_)
   ·rcases hk with h|h|h
    ·rw[Le hR Aa sE h hy];exact⟨Y,Y⟩
    ·rw[(Od hR Aa sE h hy).1];exact⟨Y,Y⟩
    ·exact absurd h h1
   ·obtain⟨d1,_,d3,d4,d5⟩:=M3 hR Aa sE h1 hy hd;have cwho:=FK (Aqe I (U0 I r).1) (U0 I r).2.1.lO ((U0 I r).2.1.lT-1) true;rw[d1]at cwho;exact⟨⟨_,cwho⟩,d3,d4,d5⟩
  ·generalize U0 I r=X at cp he;obtain⟨L,y,e⟩:=X;simp only at cp he;refine yF Tryz.func4 ?_;cases b
   all_goals
    simp only[A0s,ZF,Xs]at cb
    repeat'(first|exact Au|refine yC ?_ ?_|refine⟨λh=>?_⟩|refine JO Ai [] [] Y Y Y Y Y (Aoq l) Y (λ_ _=>rfl) (λ_ _=>rfl) (λ_ _=>rfl) (λj hj=>?_)|refine JO Ai [] [] Y Y Y Y Y (Aop r) Y (λ_ _=>rfl) (λ_ _=>rfl) (λ_ _=>rfl) (λj hj=>?_)|fail)
    all_goals first
     |exact Ah Y (A3m Y)
     |(exfalso;simp_all;done)
     |(exfalso;omega)
 ·exact A85 cw b l r hg
