/- Lemmas toward the law; each names its conditions. -/
import Derived.Test.YtppffhlbcgpgdaaGreatDoorYKS
import Derived.Test.YtppffhlbcgpgdaaGreatDoorYKP
import Derived.Test.YtppffhlbcgpgdaaGreatDoorYKQ
import Derived.Test.YtppffhlbcgpgdaaGreatDoorYK30
set_option linter.all false
set_option maxRecDepth 100000
set_option maxHeartbeats 8000000
namespace Go.Proofs.YtppffhlbcgpgdaaGreatDoor
open Go.Am
attribute [local irreducible] Decidable.decide
structure PlR where
 vX:List Step
 y:Reply
 e:Option Int
def Q8 (n:Int):PlR:=⟨[],BO 0 0,some n⟩
def DM (i:Image) (r:Req) (p:PlR):Prop:= ∃(K:Image) (r':Req),A3z (ZU r.kind) [.ref 1 0] [(1,.cells (Af (Ao i++A7 r)))] (.tuple [.t (.slice .any 48 (p.vX.map Bx)),.agg (Af (Bw p.y)),.t (Qz p.e)]) [(1,.cells (Af (Ao K++A7 r')))]
def Jt (s:MState) (x:MEntry):Prop:=A3z 100 [.agg (Af (Az s)),.agg (Af (Al x))] [] (.tuple [.agg (Af (Az (HF s x))),.t (.int .i64 (Ej s x))]) []
theorem NN {s S:MState} {x:MEntry} (hk:x.kind=0\/x.kind=1\/x.kind=2\/x.kind=5) (hm:Bv s=true) (hx:I4 x=true) (hv:J4 s x=0) (hS:EZ s x=S) (cy:A3z 144 [.agg (Af (Al x))] [] (.t (.bool true)) []) (cv:A3z 146 [.ref 1 0,.agg (Af (Al x))] [(1,.cells (Af (Az s)))] (.t .nilIface) [(1,.cells (Af (Az S)))]):Jt s x:=by
 have he:Ej s x=0:=by rw[Se hk hm hx,hv]
 have hs:HF s x=S:=by rw[(I1 he).2.2.2.2,hS]
 have fN:=XX hk hm hx hv;rw[hS]at fN;unfold Jt;rw[he,hs];exact Aks s S (CZ hm).vS (CZ fN).vS x hm fN cy cv
theorem QJ {s S:MState} {x:MEntry} (hk:x.kind=0\/x.kind=1\/x.kind=2\/x.kind=5) (hm:Bv s=true) (hx:I4 x=true) {n:Int} (hv:J4 s x=n) (hn:n≠0) (cy:A3z 144 [.agg (Af (Al x))] [] (.t (.bool true)) []) {w:Bs} (cv:A3z 146 [.ref 1 0,.agg (Af (Al x))] [(1,.cells (Af (Az s)))] (.t (V9 w n)) [(1,.cells (Af (Az S)))]):Jt s x:=by
 have he:Ej s x=n:=by rw[Se hk hm hx,hv]
 have hs:HF s x=NO:=by unfold HF;rw[WU (by rw[he];exact hn)]
 unfold Jt;rw[he,hs];exact Akr s S (CZ hm).vS x hm cy w n cv
theorem Aqi {s:MState} (hm:Bv s=true):Jt s e0:=by
 have hb:0<=s.vP/\s.vP<=8:=by
  simp only[Bv,Qp,Uj]at hm;exact hm.1
 by_cases h:s.vP<8
 ·exact NN (.inl Y) hm Ye (show(if 8<=s.vP then(102:Int)else 0)=0 from Ug Aa) Y VX (Agk s ⟨hb.1,h⟩)
 ·exact QJ (.inl Y) hm Ye (show(if 8<=s.vP then(102:Int)else 0)=102 from WU Aa) Ae VX (Agj s Aa)
theorem Aqh {s:MState} (hm:Bv s=true) {mY aP:Int} (h1:0<=mY/\mY<3) (h2:1<=aP/\aP<=20):Jt s (e1 mY aP):=by
 have hb:(0<=s.vP/\s.vP<=8)/\(Aj s mY).lO<=8:=by
  simp only[Bv,Qp,Uj]at hm;refine⟨hm.1,?_⟩;rcases AH h1 with rfl|rfl|rfl
  ·have:=hm.2.1.2;show s.t0.lO<=8;omega
  ·have:=hm.2.2.1.2;show s.t1.lO<=8;omega
  ·have:=hm.2.2.2.1.2;show s.t2.lO<=8;omega
 have hs:=(CZ hm).vS;have ev:J4 s (e1 mY aP)=(if 8<(if(Aj s mY).state=0 then s.vP+1 else(Aj s mY).lO)then(102:Int)else EP (Aj s mY) (if(Aj s mY).state=0 then s.vP+1 else(Aj s mY).lO) aP):=rfl;have es:EZ s (e1 mY aP)=if(Aj s mY).state=0 then DO (AO s mY (Ek (Aj s mY) (s.vP+1) aP)) (s.vP+1)else AO s mY (Ek (Aj s mY) (Aj s mY).lO aP):=rfl
 by_cases h0:(Aj s mY).state=0
 ·simp only[WU h0]at ev es;by_cases h8:s.vP<8
  ·have hz:EP (Aj s mY) (s.vP+1) aP=0:=by
    have m9:=(CZ hm).mY mY;have hc:=LQ m9 h0;unfold EP ER;rw[A32 (show(1<=s.vP+1/\s.vP+1<=8)/\(1<=aP/\aP<=20)from Aa),m9,h0,hc];decide+kernel
   rw[Ug Aa,hz]at ev;exact NN (.inr (.inl Y)) hm (NQ h1 h2) ev es (NR mY aP h1 h2) (Agi s hs mY aP h1 h0 ⟨hb.1.1,h8⟩ hz)
  ·rw[WU Aa]at ev;exact QJ (.inr (.inl Y)) hm (NQ h1 h2) ev Ae (NR mY aP h1 h2) (Agh s mY aP h1 h0 Aa)
 ·simp only[Ug h0]at ev es;rw[Ug Aa]at ev;by_cases hz:EP (Aj s mY) (Aj s mY).lO aP=0
  ·rw[hz]at ev;exact NN (.inr (.inl Y)) hm (NQ h1 h2) ev es (NR mY aP h1 h2) (Agg s hs mY aP h1 h0 hb.2 hz)
  ·exact QJ (.inr (.inl Y)) hm (NQ h1 h2) ev hz (NR mY aP h1 h2) (Agf s hs mY aP h1 h0 hb.2 _ Y hz)
theorem Aqg {s:MState} (hm:Bv s=true) {mY:Int} {p:Pend} (h1:0<=mY/\mY<3) (h2:AZ p=true):Jt s (e2 mY p):=by
 have hs:=(CZ hm).vS;have hl:(Aj s mY).rH.length<=900:=by have:=(Yg ((CZ hm).mY mY)).2;omega
 have ev:J4 s (e2 mY p)=IW (Aj s mY) p:=rfl;have es:EZ s (e2 mY p)=AO s mY (R6 (Aj s mY) p):=rfl;by_cases hz:IW (Aj s mY) p=0
 ·rw[hz]at ev;exact NN (.inr (.inr (.inl Y))) hm (Yd h1 h2) ev es (VW mY p h1 h2) (Age s hs mY p h1 hl hz)
 ·exact QJ (.inr (.inr (.inl Y))) hm (Yd h1 h2) ev hz (VW mY p h1 h2) (Agd s hs mY p h1 hl _ Y hz)
theorem Aqf {s:MState} (hm:Bv s=true) {p:Pend} (h2:AZ p=true):Jt s (e5 p):=
 NN (.inr (.inr (.inr Y))) hm (Ak6 h2) Y Y (Adv p h2) (Akx s p h2)
theorem VE {n:Nat} {i:Image} (h:Rch n i) (r:Req) {x:MEntry} {b:Bs} (cn:Jt i.m x) (hp:Ej i.m x=0->Pre n (Dy i (HF i.m x))) (hb:b.length<=1024) (cw:A3z 149 [.agg (Af (Al x))] [] (.tuple [.t (.str b),.t .nilIface]) []):
  (Ej i.m x=0->A3z 78 [.ref 1 0,.agg (Af (Al x))] [(1,.cells (Af (Ao i++A7 r)))] (.tuple [.agg (Af (Bx ⟨Gn i.vQ b,Ako i x⟩)),.t .nilIface]) [(1,.cells (Af (Ao (Dy i (HF i.m x))++A7 r)))])/\
  (Ej i.m x≠0->A3z 78 [.ref 1 0,.agg (Af (Al x))] [(1,.cells (Af (Ao i++A7 r)))] (.tuple [.agg (Af O6),.t (H3 (Ej i.m x))]) [(1,.cells (Af (Ao i++A7 r)))]):=by
 unfold Jt at cn;refine⟨λhz=>?_,λhz=>?_⟩
 ·rw[hz]at cn;exact Aan i r h.vT.vQ x b hb (Dy i (HF i.m x)) (HF i.m x) Y (hp hz).vS (hp hz).place cn cw
 ·exact Aam i r x (HF i.m x) (Ej i.m x) hz cn
def Af5 (i:Image) (x:MEntry) (b:Bs) (y:Image->Reply):PlR:=if Ej i.m x≠0 then Q8 (Ej i.m x)else⟨[⟨Gn i.vQ b,Ako i x⟩],y (Ako i x),none⟩
theorem NI {i:Image} {x:MEntry} {b:Bs} {y:Image->Reply} (h:Ej i.m x≠0):Af5 i x b y=Q8 (Ej i.m x):=WU h
theorem LM {i:Image} {x:MEntry} {b:Bs} {y:Image->Reply} (h:Ej i.m x=0):Af5 i x b y=⟨[⟨Gn i.vQ b,Ako i x⟩],y (Ako i x),none⟩:=Ug (λe=>e h)
def Aqj (i:Image):PlR:=Af5 i e0 Qo (λL=>{BO 0 0 with lO:=L.m.vP})
theorem Auo {n:Nat} {i:Image} (h:Rch n i) (r:Req) (hk:r.kind=0):DM i r (Aqj i):=by
 have cw:=VE h r (Aqi h.vT.vW) (At2 h) Aqt Aer;unfold DM;rw[hk];by_cases hz:Ej i.m e0=0
 ·unfold Aqj;rw[LM hz];exact⟨_,r,Ab6 i _ _ r _ (cw.1 hz)⟩
 ·unfold Aqj;rw[NI hz];exact⟨i,r,Ab5 i r _ (cw.2 hz)⟩
def Are (i:Image) (mY:Int) (oC:Bool) (sA:Int) (y:Image->Reply):PlR:=if IB i mY oC sA≠0 then Q8 (IB i mY oC sA)else⟨[Jp i mY oC sA],y (Jp i mY oC sA).i,none⟩
theorem YH {i:Image} {mY:Int} {oC:Bool} {sA:Int} {y:Image->Reply} (h:IB i mY oC sA≠0):Are i mY oC sA y=Q8 (IB i mY oC sA):=WU h
theorem UT {i:Image} {mY:Int} {oC:Bool} {sA:Int} {y:Image->Reply} (h:IB i mY oC sA=0):Are i mY oC sA y=⟨[Jp i mY oC sA],y (Jp i mY oC sA).i,none⟩:=Ug (λe=>e h)
def Alz (i:Image) (r:Req):PlR:=if(Aj i.m r.mY).state=2 then Are i r.mY false r.mZ (λL=>W5 L r.mY)else Af5 i (e1 r.mY r.mZ) (ZJ r.mY r.mZ) (λL=>W5 L r.mY)
theorem Wl {n:Nat} {i:Image} (h:Pre n i) (hn:n<=900) (mY:Int) (oC:Bool) (sA:Int):A3z 20 [.agg (Af (Ao i)),.t (.int .i64 mY),.t (.bool oC),.t (.int .i64 sA)] [] (.tuple [.agg (Af (Bx (Jp i mY oC sA))),.t (.int .i64 (IB i mY oC sA))]) []:=
 Ag8 i h.vS ((h.tq 0 Ac).pb hn) ((h.tq 1 Ac).pb hn) ((h.tq 2 Ac).pb hn) mY oC sA
theorem YG {i:Image} {mY:Int} {oC:Bool} {sA:Int} (h:IB i mY oC sA≠0):Jp i mY oC sA=P9:=WU h
theorem Aq4 {n:Nat} {i:Image} (h:Rch n i) (hn:n<=900) (r:Req) (hk:r.kind=1) (ht:0<=r.mY/\r.mY<3) (h2:1<=r.mZ/\r.mZ<=20):DM i r (Alz i r):=by
 unfold DM Alz;rw[hk];by_cases hs:(Aj i.m r.mY).state=2
 ·rw[WU hs];have cf:=Wl h.vT hn r.mY false r.mZ;by_cases hz:IB i r.mY false r.mZ=0
  ·rw[hz]at cf;rw[UT hz];exact⟨i,r,Ach i r ht hs _ _ cf⟩
  ·rw[YG hz]at cf;rw[YH hz];exact⟨i,r,Acg i r ht hs _ hz cf⟩
 ·rw[Ug hs];have cw:=VE h r (Aqh h.vT.vW ht h2) (At1 h ht) (Aqs ht h2) (Aeq r.mY r.mZ ht h2);by_cases hz:Ej i.m (e1 r.mY r.mZ)=0
  ·rw[LM hz];exact⟨_,r,Ahv i _ _ r _ ht hs (cw.1 hz)⟩
  ·rw[NI hz];exact⟨i,r,Ahu i r ht hs _ (cw.2 hz)⟩
def Aas (i:Image) (r:Req):PlR:=
 if F7 i r.b.lO r.b.lT r.b.vV≠0 then Q8 (F7 i r.b.lO r.b.lT r.b.vV)
 else if(Aa5 i.vQ r.part (A5 i r.part) r.b).e≠0 then Q8 (Aa5 i.vQ r.part (A5 i r.part) r.b).e
 else if(Aa5 i.vQ r.part (A5 i r.part) r.b).w=[]then⟨[],T1 (Aa5 i.vQ r.part (A5 i r.part) r.b).s6,none⟩
 else⟨[⟨(Aa5 i.vQ r.part (A5 i r.part) r.b).w,Tu (CP i r.part (Aa5 i.vQ r.part (A5 i r.part) r.b).part)⟩],T1 (Aa5 i.vQ r.part (A5 i r.part) r.b).s6,none⟩
theorem Aar {n:Nat} {i:Image} (h:Rch n i) (hn:n<=900) (r:Req) (hk:r.kind=2) (hq:0<=r.part/\r.part<3) (hl:r.b.rZ.length<=1000000):DM i r (Aas i r):=by
 unfold DM Aas;rw[hk];by_cases hw:F7 i r.b.lO r.b.lT r.b.vV=0
 ·rw[Ug (λe=>e hw)];have lZ:r.part=0\/r.part=1\/r.part=2:=Aa;have cP:=Acq i.vQ r.part (A5 i r.part) r.b (h.vT.tq _ lZ).vS hl;have bC:(Aa5 i.vQ r.part (A5 i r.part) r.b).e=0->Pre (n+1) (CP i r.part (Aa5 i.vQ r.part (A5 i r.part) r.b).part):=λhp=>X6 h Aa lZ hw hp;unfold PO.av at cP;generalize Aa5 i.vQ r.part (A5 i r.part) r.b=O at cP bC⊢
  have uR:r.b.vV=true->(0<=Fi i r.b.lO r.b.lT r.b.vV/\Fi i r.b.lO r.b.lT r.b.vV<3)/\G7 (Aj i.m (Fi i r.b.lO r.b.lT r.b.vV))/\ ¬((Aj i.m (Fi i r.b.lO r.b.lT r.b.vV)).state=3\/(Aj i.m (Fi i r.b.lO r.b.lT r.b.vV)).state=4):=λht=>by
   rw[ht]at hw⊢;obtain⟨k1,_,_,_⟩:=LD hw;exact⟨k1,Km ((CZ h.vT.vW).mY _),λx=>x.elim (h.vT.st _ k1).1 (h.vT.st _ k1).2⟩
  by_cases he:O.e=0
  ·rw[Ug (λe=>e he)];by_cases hz:O.w=[]
   ·rw[WU hz];exact⟨i,r,A86 i r hw uR hq _ _ _ _ cP _ _ _ _ (.inr (.inl ⟨he,hz,Y,Y,Y,Y⟩))⟩
   ·rw[Ug hz];have cs:=GS (CP i r.part O.part) O.w (bC he).vS (bC he).place;exact⟨_,r,A86 i r hw uR hq _ _ _ _ cP _ _ _ _ (.inr (.inr ⟨he,hz,_,Y,Y,Y,Y,cs⟩))⟩
  ·rw[WU he];exact⟨i,r,A86 i r hw uR hq _ _ _ _ cP _ _ _ _ (.inl ⟨he,Y,Y,Y,Y⟩)⟩
 ·rw[WU hw];exact⟨i,r,VM i r _ hw Y⟩
def Auk (i:Image) (r:Req):PlR:=
 if F7 i r.lO r.lT true≠0 then Q8 (F7 i r.lO r.lT true)
 else if(A5 i r.part).fin<r.offset then Q8 130
 else Af5 i (e2 (Fi i r.lO r.lT true) (EI r)) (Qn (Fi i r.lO r.lT true) (EI r)) (λ_=>BO 0 0)
theorem Auj {n:Nat} {i:Image} (h:Rch n i) (r:Req) (hk:r.kind=3) (hq:0<=r.part/\r.part<3) (hp:AZ (EI r)=true):DM i r (Auk i r):=by
 unfold DM Auk;rw[hk];by_cases hw:F7 i r.lO r.lT true=0
 ·rw[Ug (λe=>e hw)];obtain⟨k1,_,_,_⟩:=LD hw;by_cases ho:(A5 i r.part).fin<r.offset
  ·rw[WU ho];exact⟨i,r,XR i r hw _ Y k1 hq ho⟩
  ·rw[Ug ho];have cL:=Km ((CZ h.vT.vW).mY (Fi i r.lO r.lT true));have j6: ¬((Aj i.m (Fi i r.lO r.lT true)).state=3\/(Aj i.m (Fi i r.lO r.lT true)).state=4):=λx=>x.elim (h.vT.st _ k1).1 (h.vT.st _ k1).2;have cw:=VE h r (Aqg h.vT.vW k1 hp) (At0 h k1) (Aqr k1 hp) (Aep _ _ k1 hp);by_cases hz:Ej i.m (e2 (Fi i r.lO r.lT true) (EI r))=0
   ·rw[LM hz];exact⟨_,r,XT i _ _ r hw _ Y k1 hq ho cL j6 _ (cw.1 hz)⟩
   ·rw[NI hz];exact⟨i,r,XS i r hw _ Y k1 hq ho cL j6 _ (cw.2 hz)⟩
 ·rw[WU hw];exact⟨i,r,XQ i r _ hw Y⟩
def Amy (i:Image) (r:Req):PlR:=
 if F7 i r.lO r.lT true≠0 then Q8 (F7 i r.lO r.lT true)
 else if MU (Aj i.m (Fi i r.lO r.lT true)) r.oC=true then⟨[],BO 0 0,none⟩
 else Are i (Fi i r.lO r.lT true) r.oC 0 (λ_=>BO 0 0)
theorem Ari {n:Nat} {i:Image} (h:Rch n i) (hn:n<=900) (r:Req) (hk:r.kind=4):DM i r (Amy i r):=by
 unfold DM Amy;rw[hk];by_cases hw:F7 i r.lO r.lT true=0
 ·rw[Ug (λe=>e hw)];obtain⟨k1,_,_,_⟩:=LD hw
  cases he:MU (Aj i.m (Fi i r.lO r.lT true)) r.oC with
  |true=>
   rw[WU Y];exact⟨i,r,Abt i r hw _ Y k1 he⟩
  |false=>
   rw[Ug Ae];have cf:=Wl h.vT hn (Fi i r.lO r.lT true) r.oC 0;by_cases hz:IB i (Fi i r.lO r.lT true) r.oC 0=0
   ·rw[hz]at cf;rw[UT hz];exact⟨i,r,Abv i r hw _ Y k1 he _ _ cf⟩
   ·rw[YG hz]at cf;rw[YH hz];exact⟨i,r,Abu i r hw _ Y k1 he _ hz cf⟩
 ·rw[WU hw];exact⟨i,r,Abs i r _ hw Y⟩
def Avk (i:Image) (r:Req):PlR:=
 if(A5 i r.part).fin<r.offset then Q8 130 else Af5 i (e5 (EI r)) (Oc (EI r)) (λ_=>BO 0 0)
theorem Avj {n:Nat} {i:Image} (h:Rch n i) (r:Req) (hk:r.kind=6) (hq:0<=r.part/\r.part<3) (hp:AZ (EI r)=true):DM i r (Avk i r):=by
 unfold DM Avk;rw[hk];by_cases ho:(A5 i r.part).fin<r.offset
 ·rw[WU ho];exact⟨i,r,Acc i r hq ho⟩
 ·rw[Ug ho];have cw:=VE h r (Aqf h.vT.vW hp) (Atz h) (Aqm hp) (Aem _ hp);by_cases hz:Ej i.m (e5 (EI r))=0
  ·rw[LM hz];exact⟨_,r,Ace i _ _ r hq ho _ (cw.1 hz)⟩
  ·rw[NI hz];exact⟨i,r,Acd i r hq ho _ (cw.2 hz)⟩
def Asr (i:Image) (r:Req):PlR:=⟨[],T1 (As3 i.m r.sZ r.part),none⟩
theorem Ajh (i:Image) (r:Req) (hk:r.kind=7) (hg:r.sZ=0\/r.sZ=1) (hq:0<=r.part/\r.part<3):DM i r (Asr i r):=by
 unfold DM;rw[hk];exact⟨i,r,Ao7 i r hg hq⟩
def Avh (i:Image) (r:Req):PlR:=
 if(Q9 i.vQ r.part (A5 i r.part) r.offset).e≠0 then Q8 (Q9 i.vQ r.part (A5 i r.part) r.offset).e
 else⟨[⟨(Q9 i.vQ r.part (A5 i r.part) r.offset).w,Tu (CP i r.part (Q9 i.vQ r.part (A5 i r.part) r.offset).part)⟩],BO 0 0,none⟩
theorem Ary {n:Nat} {i:Image} (h:Rch n i) (r:Req) (hk:r.kind=8) (hq:0<=r.part/\r.part<3):DM i r (Avh i r):=by
 unfold DM Avh;rw[hk];have lZ:r.part=0\/r.part=1\/r.part=2:=Aa;have cc:=Avy i.vQ r.part (A5 i r.part) r.offset (h.vT.tq _ lZ).vS;have bC:(Q9 i.vQ r.part (A5 i r.part) r.offset).e=0->Pre (n+1) (CP i r.part (Q9 i.vQ r.part (A5 i r.part) r.offset).part):=λhp=>Ap3 h lZ hp;unfold EO.av at cc;generalize Q9 i.vQ r.part (A5 i r.part) r.offset=O at cc bC⊢;by_cases he:O.e=0
 ·rw[Ug (λe=>e he)];rw[he]at cc;have cs:=GS (CP i r.part O.part) O.w (bC he).vS (bC he).place;exact⟨_,r,Ar0 i _ r hq _ _ cc cs⟩
 ·rw[WU he];exact⟨i,r,Arz i r hq _ _ _ he cc⟩
end Go.Proofs.YtppffhlbcgpgdaaGreatDoor
namespace Go.Proofs.YtppffhlbcgpgdaaGreatDoor
open Go.Am
attribute [local irreducible] Decidable.decide Tr A6 CG EJ
def Wm (p:Part) (n:Int):Int:=if n<p.vR\/p.fin<n then 130 else 0
theorem Aak (p:Part) (n most:Int) (oC:Bool) (hp:EU p=true) (h1:p.rows.length<=1000000) (h2:p.kI.length<=1000000) (hm:0<=most/\most<=64) (hn:n<p.vR\/p.fin<n):A3z 83 [.agg (Af (Ax p)),.t (.int .i64 n),.t (.int .i64 most),.t (.bool oC)] [] (.tuple [.t (.slice .any 5 []),.t (.int .i64 0),.t (.int .i64 130)]) []:=by
 have cpl:=NE p n hp Aa Aa;rw[show Lg p n=Co 220 [97,32,112,108,97,99,101] 130 from WU hn]at cpl;have cd:=OC [97,32,112,108,97,99,101] 130;unfold Co at cpl cd;refine yF Tryz.func83 ?_
 repeat'(first|exact Au|refine yC ?_ ?_|refine⟨λh=>?_⟩|fail)
 all_goals first
  |exact Ah Y (As ⟨Ay,A3l _,A3l _,trivial⟩)
  |(exfalso;omega)
  |(exfalso;simp_all;done)
theorem Aal (p:Part) (n most:Int) (oC:Bool) (hp:EU p=true) (h1:p.rows.length<=1000000) (h2:p.kI.length<=1000000) (hm:0<=most/\most<=64) (hn: ¬(n<p.vR\/p.fin<n)) (l:List Row) (N:Int) (cf:A3z 124 [.agg (Af (Ax p)),.t (.int .i64 n),.t (.int .i64 most),.t (.bool oC)] [] (.tuple [.t (.slice .any 5 (l.map Aw)),.t (.int .i64 N)]) []):A3z 83 [.agg (Af (Ax p)),.t (.int .i64 n),.t (.int .i64 most),.t (.bool oC)] [] (.tuple [.t (.slice .any 5 (l.map Aw)),.t (.int .i64 N),.t (.int .i64 0)]) []:=by
 have cpl:=NE p n hp Aa Aa;rw[show Lg p n=.nilIface from Ug hn]at cpl;refine yF Tryz.func83 ?_
 repeat'(first|exact Au|refine yC ?_ ?_|refine⟨λh=>?_⟩|fail)
 all_goals first
  |exact Ah Y (A3m Y)
  |(exfalso;omega)
  |(exfalso;simp_all;done)
def Avb (i:Image) (r:Req):PlR:=
 if Wm (A5 i r.part) r.offset≠0 then Q8 (Wm (A5 i r.part) r.offset)
 else⟨[],{T1 (Amh (A5 i r.part) r.offset r.most.toNat)with rows:=Ami (A5 i r.part) r.offset r.most.toNat r.oC},none⟩
theorem Akg {p:Part} (h:POk p):EU p=true:=by
 have:=Ez.2 h;simp only[BU,HW,Qp]at this;exact this.1.1
theorem Ava {n:Nat} {i:Image} (h:Rch n i) (r:Req) (hk:r.kind=5) (hq:0<=r.part/\r.part<3) (hm:1<=r.most/\r.most<=64):DM i r (Avb i r):=by
 unfold DM Avb;rw[hk];have lZ:r.part=0\/r.part=1\/r.part=2:=Aa;have eE:=h.vT.pok _ lZ;have cS:=(h.vT.tq _ lZ).vS;have uO:=Akg eE;by_cases hn:r.offset<(A5 i r.part).vR\/(A5 i r.part).fin<r.offset
 ·have e:Wm (A5 i r.part) r.offset=130:=WU hn;rw[e,WU Ae];exact⟨i,r,Ag9 i r hq 130 Ae (Aak _ _ _ _ uO cS.1 cS.2.1 ⟨Aa,hm.2⟩ hn)⟩
 ·have e:Wm (A5 i r.part) r.offset=0:=Ug hn;rw[e,Ug Ae]
  obtain⟨k,g9⟩: ∃k:Nat,r.most=(k:Int):=⟨r.most.toNat,Aa⟩
  have ek:r.most.toNat=k:=Aa;rw[ek]
  have jE: ∀x∈(A5 i r.part).rows,-1000000<=x.offset/\x.offset<=1000000000:=λx hx=>by
   have:=eE.rin x hx;have:=eE.b0;have:=eE.b2;omega
  refine⟨i,r,Aha i r hq _ _ (Aal _ _ _ _ uO cS.1 cS.2.1 ⟨Aa,hm.2⟩ hn _ _ ?_)⟩;rw[g9];unfold Ami Amh;by_cases aC:k<(Em (A5 i r.part) r.offset).length
  ·rw[WU aC,WU aC];exact Aaa _ _ k _ cS.1 eE.srt jE aC
  ·rw[Ug aC,Ug aC]
   cases r.oC with
   |true=>rw[WU Y];exact ZZ _ _ k cS.1 eE.srt Aa
   |false=>rw[Ug Ae];exact ZY _ _ k cS.1 ⟨cS.2.1,cS.2.2.1⟩ eE.srt Aa Aa
def Iu (l:List Step) (mY:Int):List Step:=match l.getLast? with
 |some s=>if IB s.i mY false 0=0 then l++[Jp s.i mY false 0]else l
 |none=>l
theorem Nu (a:List Step) (s:Step) (mY:Int):Iu (a++[s]) mY=if IB s.i mY false 0=0 then(a++[s])++[Jp s.i mY false 0]else a++[s]:=by
 unfold Iu;simp
def Rp (T:Image) (l:List Int):List Step:=l.foldl Iu [⟨[],T⟩]
structure TickOk (n:Nat) (l:List Step):Prop where
 last: ∃a s,l=a++[s]
 all: ∀x∈l,Rch n x.i
theorem TickOk.step {n:Nat} {l:List Step} (h:TickOk n l) (hn:n<=900) (mY:Int):TickOk (n+1) (Iu l mY)/\(Iu l mY).length<=l.length+1:=by
 obtain⟨a,s,rfl⟩:=h.last;rw[Nu];have lU: ∀x∈a++[s],Rch (n+1) x.i:=λx hx=>(h.all x hx).up;split
 ·rename_i he;refine⟨⟨⟨_,_,Y⟩,λx hx=>?_⟩,Ac⟩;rcases A25.1 hx with hx|hx
  ·exact lU x hx
  ·rw[A4h.1 hx];exact Aka (h.all s Ac) hn he
 ·exact⟨⟨⟨a,s,Y⟩,lU⟩,Aa⟩
theorem WN: ∀(l:List Int) {n:Nat} {acc:List Step},TickOk n acc->n+l.length<=900->TickOk (n+l.length) (l.foldl Iu acc)/\(l.foldl Iu acc).length<=acc.length+l.length
 |[],n,acc,h,_=>⟨h,Ac⟩
 |t::r,n,acc,h,hn=>by
  simp only[A2z]at hn;have hs:=h.step Aa t;have:=WN r hs.1 Aa;simp only[A6m,A2z];rw[show n+(r.length+1)=n+1+r.length from Aa];exact⟨this.1,Aa⟩
theorem Anf (s:MState):(TA s).length<=3:=by
 unfold TA;repeat' split
 all_goals simp
def Ajc (i:Image):PlR:=⟨Rp (GX i) (TA (GX i).m),BO 0 0,none⟩
theorem Ajd {n:Nat} {i:Image} (h:Rch n i) (hn:n<=880) (r:Req) (hk:r.kind=9):DM i r (Ajc i):=by
 unfold DM Ajc;rw[hk];have hT:=Aj9 h;have vB:Rch n (GX i):=hT;have hd:=Anf (GX i).m
 have h0:TickOk n [⟨[],GX i⟩]:=⟨⟨[],_,Y⟩,λx hx=>by rw[A4h.1 hx];exact vB⟩
 have cL:=XI i h.vT.vS;have hcd:=Ans (GX i).m (CZ vB.vT.vW).vS;refine⟨i,r,?_⟩;have:=Akc i (GX i) r cL (TA (GX i).m) hcd Aa (λk=>Rp (GX i) ((TA (GX i).m).take k)) Y (λk mY hk=>?_)
 ·rw[A5o]at this;exact this
 ·have aC:=(ZH.1 hk).1;have hl:((TA (GX i).m).take k).length=k:=by rw[A2i];omega
  have hi:=WN ((TA (GX i).m).take k) h0 (by rw[hl];omega);obtain⟨a,s,hs⟩:=hi.1.last;have cJ:=hi.2;rw[hl,A8g]at cJ;have e:Rp (GX i) ((TA (GX i).m).take k)=a++[s]:=hs;refine⟨by show(Rp _ _).length<=100;unfold Rp;omega,a.length,s,Jp s.i mY false 0,IB s.i mY false 0,by rw[e];simp,by rw[e];simp,?_,?_⟩
  ·have hR:=hi.1.all s (by rw[hs];simp);exact Wl hR.vT (by rw[hl];omega) mY false 0
  ·show Rp _ _=_;rw[AB hk];unfold Rp at e⊢;rw[A8z,e];exact Nu a s mY
def Uz (i:Image) (r:Req):PlR:=
 if r.kind=0 then Aqj i else if r.kind=1 then Alz i r else if r.kind=2 then Aas i r else if r.kind=3 then Auk i r
 else if r.kind=4 then Amy i r else if r.kind=5 then Avb i r else if r.kind=6 then Avk i r else if r.kind=7 then Asr i r
 else if r.kind=8 then Avh i r else Ajc i
theorem PL {r:Req} (h:Fa r=true):0<=r.kind/\r.kind<=9:=by
 unfold Fa at h;simp only[Qp]at h;have hr:=h.1;unfold B8 at hr;simp only at hr
 repeat' split at hr
 all_goals first
  |omega
  |(cases hr;done)
theorem Aql {n:Nat} {i:Image} (h:Rch n i) (hn:n<=880) {r:Req} (hm:Fa r=true) (hl:r.b.rZ.length<=1000000):DM i r (Uz i r):=by
 have hr:B8 r=true:=by unfold Fa at hm;simp only[Qp]at hm;exact hm.1
 have hk:=PL hm;unfold B8 at hr;simp only at hr;obtain e|e|e|e|e|e|e|e|e|e:r.kind=0\/r.kind=1\/r.kind=2\/r.kind=3\/r.kind=4\/r.kind=5\/r.kind=6\/r.kind=7\/r.kind=8\/r.kind=9:=Aa
 all_goals
  unfold Uz;simp only[e,Int.reduceEq,Xs,ZF,Qp,Uj]at hr⊢
 ·exact Auo h r e
 ·exact Aq4 h Aa r e Aa hr.2
 ·exact Aar h Aa r e Aa hl
 ·refine Auj h r e Aa ?_;unfold AZ EI;exact decide_eq_true (by dsimp only;omega)
 ·exact Ari h Aa r e
 ·exact Ava h r e Aa hr.2.2
 ·refine Avj h r e Aa ?_;unfold AZ EI;exact decide_eq_true (by dsimp only;omega)
 ·exact Ajh i r e Aa Aa
 ·exact Ary h r e Aa
 ·exact Ajd h hn r e
def U0 (i:Image) (r:Req):List Step×Reply×Int:=
 if Fa r=false then([],BO 0 0,2)else match (Uz i r).e with
  |some n=>([],BO r.kind n,0)
  |none=>((Uz i r).vX,{(Uz i r).y with kind:=r.kind},0)
theorem Y2:Aq (AV.agg (Af Ao5.zero)) (AV.agg (Af (Bw (BO 0 0)))):=by
 refine AC ?_;exact AA
theorem Afz (i:Image) (r:Req) (hs:SmallI i) (hl:r.b.rZ.length<=1000000) (hc:GK i=true) (hb:Fa r=false):A3z 11 [.agg (Af (Ao i)),.agg (Af (A7 r))] [] (.tuple [.t (.slice .any 48 []),.agg (Af (Bw (BO 0 0))),.t (.int .i64 2)]) []:=by
 have cc:=Kf i hs;have cm:=Xr r hl;rw[hc,WU Y]at cc;rw[hb]at cm;refine yF Tryz.func11 ?_
 repeat'(first|exact Au|refine yC ?_ ?_|refine⟨λh=>?_⟩|refine B5 3 3 ?_|refine B5 4 9 ?_|refine B5 9 6 ?_|refine B5 11 3 ?_|fail)
 all_goals first
  |exact Ah Y (As ⟨Ay,Y2,A3l _,trivial⟩)
  |(exfalso;simp_all;done)
theorem Aqo {n:Nat} {i:Image} (h:Rch n i) (hn:n<=880) (r:Req) (hl:r.b.rZ.length<=1000000):A3z 11 [.agg (Af (Ao i)),.agg (Af (A7 r))] [] (.tuple [.t (.slice .any 48 ((U0 i r).1.map Bx)),.agg (Af (Bw (U0 i r).2.1)),.t (.int .i64 (U0 i r).2.2)]) []:=by
 cases hm:Fa r with
 |false=>
  have e:U0 i r=([],BO 0 0,2):=by unfold U0;rw[WU hm]
  rw[e];exact Afz i r h.vT.vS hl h.chk hm
 |true=>
  have cm:=Xr r hl;rw[hm]at cm;obtain⟨K,r',cb⟩:=Aql h hn hm hl;have cp:=Akh i K r r' h.vT.vS hl h.chk cm (PL hm) _ _ _ cb;unfold U0;rw[hm,Ug Ae]
  cases he:(Uz i r).e with
  |none=>rw[he]at cp;exact cp
  |some m=>rw[he]at cp;exact cp
theorem Aqq {n:Nat} {i:Image} (h:Rch n i) (hn:n<=880) {r:Req} {s:Step} (hs:s∈(U0 i r).1):Rch (n+4) s.i:=by
 have up: ∀{i:Image},Rch (n+1) i->Rch (n+4) i:=λx=>x.up.up.up
 have one: ∀{x:MEntry} {b:Bs} {y:Image->Reply},(Ej i.m x=0->Pre n (Dy i (HF i.m x)))->s∈(Af5 i x b y).vX->Rch (n+4) s.i:=fun{x b y} hp hx=>by
  by_cases hz:Ej i.m x=0
  ·rw[LM hz]at hx;rw[A4h.1 hx];exact up (hp hz).set.up
  ·rw[NI hz]at hx;cases hx
 have fin: ∀{mY:Int} {oC:Bool} {sA:Int} {y:Image->Reply},s∈(Are i mY oC sA y).vX->Rch (n+4) s.i:=fun{mY oC sA y} hx=>by
  by_cases hz:IB i mY oC sA=0
  ·rw[UT hz]at hx;rw[A4h.1 hx];exact up (Aka h Aa hz)
  ·rw[YH hz]at hx;cases hx
 unfold U0 at hs;split at hs
 ·cases hs
 rename_i hmf;have hm:Fa r=true:=by revert hmf;cases Fa r<;>simp
 cases he:(Uz i r).e with
 |some m=>rw[he]at hs;cases hs
 |none=>
  rw[he]at hs;simp only at hs;have hr:B8 r=true:=by unfold Fa at hm;simp only[Qp]at hm;exact hm.1
  have hk:=PL hm;unfold B8 at hr;simp only at hr;obtain e|e|e|e|e|e|e|e|e|e:r.kind=0\/r.kind=1\/r.kind=2\/r.kind=3\/r.kind=4\/r.kind=5\/r.kind=6\/r.kind=7\/r.kind=8\/r.kind=9:=Aa
  all_goals
   unfold Uz at hs;simp only[e,Int.reduceEq,Xs,ZF,Qp,Uj]at hr hs
  ·exact one (At2 h) hs
  ·unfold Alz at hs;split at hs
   ·exact fin hs
   ·exact one (At1 h Aa) hs
  ·unfold Aas at hs;split at hs
   ·cases hs
   rename_i hw;split at hs
   ·cases hs
   rename_i hp;split at hs
   ·cases hs
   rw[A4h.1 hs];exact up (X6 h Aa Aa (A34.1 hw) (A34.1 hp)).set
  ·unfold Auk at hs;split at hs
   ·cases hs
   rename_i hw;split at hs
   ·cases hs
   exact one (At0 h (LD (A34.1 hw)).1) hs
  ·unfold Amy at hs;split at hs
   ·cases hs
   split at hs
   ·cases hs
   exact fin hs
  ·unfold Avb at hs;split at hs<;>cases hs
  ·unfold Avk at hs;split at hs
   ·cases hs
   exact one (Atz h) hs
  ·cases hs
  ·unfold Avh at hs;split at hs
   ·cases hs
   rename_i hp;rw[A4h.1 hs];exact up (Ap3 h Aa (A34.1 hp)).set
  ·have hd:=Anf (GX i).m;have vB:Rch n (GX i):=Aj9 h
   have h0:TickOk n [⟨[],GX i⟩]:=⟨⟨[],_,Y⟩,λx hx=>by rw[A4h.1 hx];exact vB⟩
   have hi:=(WN (TA (GX i).m) h0 Aa).1.all s hs
   have lU: ∀(k:Nat) {i:Image},Rch n i->Rch (n+k) i:=λk=>by
    induction k with
    |zero=>exact λh=>h
    |succ k ih=>exact λh=>(ih h).up
   have: ∀{m:Nat} {i:Image},m<=3->Rch (n+m) i->Rch (n+4) i:=fun{m i} hm h=>by
    obtain rfl|rfl|rfl|rfl:m=0\/m=1\/m=2\/m=3:=Aa
    ·exact h.up.up.up.up
    ·exact h.up.up.up
    ·exact h.up.up
    ·exact h.up
   exact this hd hi
def Aqe (i:Image) (l:List Step):Image:=match l.getLast? with
 |some s=>s.i
 |none=>i
def Aif (vQ:Int) (l:List Req):Image:=l.foldl (λi r=>Aqe i (U0 i r).1) ⟨vQ,EW,EW,EW,Aor⟩
theorem A14 {n:Nat} {i:Image} (h:Rch n i) (hn:n<=880) (r:Req):Rch (n+4) (Aqe i (U0 i r).1):=by
 unfold Aqe
 cases hl:(U0 i r).1.getLast? with
 |none=>exact h.up.up.up.up
 |some s=>exact Aqq h hn (A8n hl)
theorem Asp {vQ:Int} (h:vQ=0\/vQ=1):Rch 0 ⟨vQ,EW,EW,EW,Aor⟩:=by
 have hz:POk EW:=Ez.1 (by decide+kernel)
 have ht:TQ 0 EW:=⟨U3 hz Ae Ae,Ae,Ae,Ae⟩
 have hp: ∀q,(q=0\/q=1\/q=2)->A5 ⟨vQ,EW,EW,EW,Aor⟩ q=EW:=λq hq=>by rcases hq with rfl|rfl|rfl<;>rfl
 refine⟨⟨h,(show Bv Aor=true by decide+kernel),λq hq=>(by rw[hp q hq];exact hz),λq hq=>(by rw[hp q hq];exact ht),λq hq o ho=>(by rw[hp q hq]at ho;cases ho),λt ht=>?_⟩,λt ht=>?_⟩
 ·rcases WM ht with rfl|rfl|rfl<;>exact⟨(show(0:Int)≠3 from Ae),(show(0:Int)≠4 from Ae)⟩
 ·rcases WM ht with rfl|rfl|rfl<;>rfl
theorem Aon {vQ:Int} (h:vQ=0\/vQ=1) (l:List Req) (hl:l.length<=200):Rch (4*l.length) (Aif vQ l):=by
 have key: ∀(l:List Req) {n:Nat} {i:Image},Rch n i->n+4*l.length<=880->Rch (n+4*l.length) (l.foldl (λi r=>Aqe i (U0 i r).1) i):=λl=>by
  induction l with
  |nil=>intro n i h _;exact h
  |cons r l ih=>
   intro n i h hn;simp only[A2z]at hn⊢;have:=ih (A14 h Aa r) Aa;rw[show n+4*(l.length+1)=n+4+4*l.length from Aa];exact this
 have:=key l (Asp h) Aa;rw[Atj]at this;exact this
end Go.Proofs.YtppffhlbcgpgdaaGreatDoor
namespace Go.Proofs.YtppffhlbcgpgdaaGreatDoor
open Go.Am
attribute [local irreducible] Decidable.decide
def A4v (R:PlR):Prop:=R.vX=[]\/ ∃s,R.vX=[s]/\s.w≠[]/\R.y.e=0/\R.e=none
theorem Aos {i:Image} {x:MEntry} {b:Bs} {y:Image->Reply} (hy: ∀L,(y L).e=0):A4v (Af5 i x b y):=by
 by_cases h:Ej i.m x=0
 ·rw[LM h];exact .inr ⟨_,Y,by simp[Gn],hy _,Y⟩
 ·rw[NI h];exact .inl Y
theorem A18 (i:Image) (mY:Int) (oC:Bool) (sA:Int):(QV i mY oC sA).w≠[]:=by simp[QV,Gn]
theorem A2y {i:Image} {mY:Int} {oC:Bool} {sA:Int} (h:IB i mY oC sA=0):(Jp i mY oC sA).w≠[]:=by
 unfold Jp;rw[Ug (λx=>x h)];exact A18 _ _ _ _
theorem Aup {i:Image} {mY:Int} {oC:Bool} {sA:Int} {y:Image->Reply} (hy: ∀L,(y L).e=0):A4v (Are i mY oC sA y):=by
 by_cases h:IB i mY oC sA=0
 ·rw[UT h];exact .inr ⟨_,Y,A2y h,hy _,Y⟩
 ·rw[YH h];exact .inl Y
theorem A45 {e q:Int} {p:Part} {n:Int} (h:(Q9 e q p n).e=0):(Q9 e q p n).w≠[]:=by
 rw[(Ano h).2.2];simp[EV]
theorem A03 {i:Image} {r:Req} (h9:r.kind≠9) (hk:0<=r.kind/\r.kind<=9):A4v (Uz i r)/\((Uz i r).vX≠[]->r.kind≠5/\r.kind≠7):=by
 obtain e|e|e|e|e|e|e|e|e:r.kind=0\/r.kind=1\/r.kind=2\/r.kind=3\/r.kind=4\/r.kind=5\/r.kind=6\/r.kind=7\/r.kind=8:=Aa
 all_goals
  unfold Uz;simp only[e,Int.reduceEq,Xs,ZF]
 ·exact⟨Aos λ_=>rfl,λ_=>⟨Ae,Ae⟩⟩
 ·refine⟨?_,λ_=>⟨Ae,Ae⟩⟩;unfold Alz;split
  ·exact Aup λ_=>rfl
  ·exact Aos λ_=>rfl
 ·refine⟨?_,λ_=>⟨Ae,Ae⟩⟩;unfold Aas;split
  ·exact .inl Y
  split
  ·exact .inl Y
  split
  ·exact .inl Y
  ·rename_i h;exact .inr ⟨_,Y,h,Y,Y⟩
 ·refine⟨?_,λ_=>⟨Ae,Ae⟩⟩;unfold Auk;split
  ·exact .inl Y
  split
  ·exact .inl Y
  ·exact Aos λ_=>rfl
 ·refine⟨?_,λ_=>⟨Ae,Ae⟩⟩;unfold Amy;split
  ·exact .inl Y
  split
  ·exact .inl Y
  ·exact Aup λ_=>rfl
 ·have:(Avb i r).vX=[]:=by unfold Avb;split<;>rfl
  exact⟨.inl this,λh=>absurd this h⟩
 ·refine⟨?_,λ_=>⟨Ae,Ae⟩⟩;unfold Avk;split
  ·exact .inl Y
  ·exact Aos λ_=>rfl
 ·exact⟨.inl Y,λh=>absurd Y h⟩
 ·refine⟨?_,λ_=>⟨Ae,Ae⟩⟩;unfold Avh;split
  ·exact .inl Y
  ·rename_i h;exact .inr ⟨_,Y,A45 (A34.1 h),Y,Y⟩
structure TickW (T:Image) (l:List Step):Prop where
 h: ∃r,l=⟨[],T⟩::r/\ ∀s∈r,s.w≠[]
theorem TickW.step {T:Image} {l:List Step} (h:TickW T l) (mY:Int):TickW T (Iu l mY):=by
 obtain⟨r,rfl,hr⟩:=h.h;unfold Iu
 cases hg:(⟨[],T⟩::r:List Step).getLast? with
 |none=>exact⟨r,Y,hr⟩
 |some s=>
  simp only;split
  ·rename_i he;refine⟨r++[Jp s.i mY false 0],Y,λx hx=>?_⟩;rcases A25.1 hx with hx|hx
   ·exact hr x hx
   ·rw[A4h.1 hx];exact A2y he
  ·exact⟨r,Y,hr⟩
theorem A2s (T:Image): ∀(l:List Int) {a:List Step},TickW T a->TickW T (l.foldl Iu a)
 |[],_,h=>h
 |t::l,_,h=>A2s T l (h.step t)
structure PlanK (i:Image) (r:Req) (l:List Step) (y:Reply) (e:Int):Prop where
 bad:e≠0->Fa r=false/\l=[]
 kind:e=0->y.kind=r.kind
 many:l.length<=4
 one:r.kind≠9->l.length<=1
 good:e=0->l≠[]->y.e=0/\0<=r.kind/\r.kind<=9/\r.kind≠5/\r.kind≠7
 w: ∀k s,l[k]?=some s->s.w=[]->r.kind=9/\k=0
theorem A2u {n:Nat} {i:Image} (h:Rch n i) (hn:n<=880) (r:Req):PlanK i r (U0 i r).1 (U0 i r).2.1 (U0 i r).2.2:=by
 unfold U0
 cases hm:Fa r with
 |false=>
  simp only[Xs];exact⟨λ_=>⟨hm,Y⟩,λh=>absurd h Ae,Ac,λ_=>Ac,λh=>absurd h Ae,λk s hs=>by simp at hs⟩
 |true=>
  have hk:=PL hm;rw[Ug Ae]
  cases he:(Uz i r).e with
  |some m=>exact⟨λh=>absurd Y h,λ_=>rfl,Ac,λ_=>Ac,λ_ h=>absurd Y h,λk s hs=>by simp at hs⟩
  |none=>
   simp only;by_cases h9:r.kind=9
   ·have e:Uz i r=Ajc i:=by
     unfold Uz;simp only[h9,Int.reduceEq,Xs,ZF]
    rw[e];have hd:=Anf (GX i).m
    have h0:TickOk n [⟨[],GX i⟩]:=⟨⟨[],_,Y⟩,λx hx=>by rw[A4h.1 hx];exact Aj9 h⟩
    have hi:=(WN (TA (GX i).m) h0 Aa).2;obtain⟨q,hq,hw⟩:=(A2s (GX i) (TA (GX i).m) (a:=[⟨[],GX i⟩]) ⟨[],Y,λs hs=>by cases hs⟩).h
    have fK:(Ajc i).vX.length<=4:=by
     show(List.foldl Iu [⟨[],GX i⟩] (TA (GX i).m)).length<=4;rw[A8g]at hi;omega
    refine⟨λh=>absurd Y h,λ_=>rfl,fK,λh=>absurd h9 h,λ_ _=>⟨Y,hk.1,hk.2,Aa,Aa⟩,λk s hs h0=>⟨h9,?_⟩⟩;have hs:(List.foldl Iu [⟨[],GX i⟩] (TA (GX i).m))[k]?=some s:=hs;rw[hq]at hs
    cases k with
    |zero=>rfl
    |succ k=>
     rw[A5z]at hs;exact absurd h0 (hw s (Apj hs))
   ·obtain⟨h1,h2⟩:=A03 (i:=i) h9 hk;rcases h1 with h1|⟨s,h1,h3,h4,_⟩
    ·rw[h1];exact⟨λh=>absurd Y h,λ_=>rfl,Ac,λ_=>Ac,λ_ h=>absurd Y h,λk s hs=>by simp at hs⟩
    ·have h2:=h2 (by rw[h1];simp);rw[h1];refine⟨λh=>absurd Y h,λ_=>rfl,Ac,λ_=>Ac,λ_ _=>⟨h4,hk.1,hk.2,h2.1,h2.2⟩,λk s' hs h0=>?_⟩
     cases k with
     |zero=>simp at hs;subst hs;exact absurd h0 h3
     |succ k=>simp at hs
theorem Au8 {i:Image} {mY:Int} {oC:Bool} {sA:Int} (h:IB i mY oC sA=0):(Jp i mY oC sA).i.vQ=i.vQ:=by
 unfold Jp;rw[Ug (λx=>x h)];exact(IF ..).2
theorem Ao9 {i:Image} {x:MEntry} {b:Bs} {y:Image->Reply} {s:Step} (hs:s∈(Af5 i x b y).vX):s.i.vQ=i.vQ:=by
 by_cases h:Ej i.m x=0
 ·rw[LM h]at hs;rw[A4h.1 hs];rfl
 ·rw[NI h]at hs;cases hs
theorem Avx {i:Image} {mY:Int} {oC:Bool} {sA:Int} {y:Image->Reply} {s:Step} (hs:s∈(Are i mY oC sA y).vX):s.i.vQ=i.vQ:=by
 by_cases h:IB i mY oC sA=0
 ·rw[UT h]at hs;rw[A4h.1 hs];exact Au8 h
 ·rw[YH h]at hs;cases hs
theorem Asw {t:Int}: ∀(l:List Int) {a:List Step},(∀s∈a,s.i.vQ=t)-> ∀s∈l.foldl Iu a,s.i.vQ=t
 |[],_,h=>h
 |u::l,a,h=>Asw l (a:=Iu a u) λs hs=>by
  unfold Iu at hs
  cases hg:a.getLast? with
  |none=>rw[hg]at hs;exact h s hs
  |some x=>
   rw[hg]at hs;simp only at hs;split at hs
   ·rename_i he;rcases A25.1 hs with hs|hs
    ·exact h s hs
    ·rw[A4h.1 hs,Au8 he];exact h x (A8n hg)
   ·exact h s hs
theorem A00 {i:Image} {r:Req} (hk:0<=r.kind/\r.kind<=9) {s:Step} (hs:s∈(Uz i r).vX):s.i.vQ=i.vQ:=by
 obtain e|e|e|e|e|e|e|e|e|e:r.kind=0\/r.kind=1\/r.kind=2\/r.kind=3\/r.kind=4\/r.kind=5\/r.kind=6\/r.kind=7\/r.kind=8\/r.kind=9:=Aa
 all_goals
  unfold Uz at hs;simp only[e,Int.reduceEq,Xs,ZF]at hs
 ·exact Ao9 hs
 ·unfold Alz at hs;split at hs
  ·exact Avx hs
  ·exact Ao9 hs
 ·unfold Aas at hs
  repeat' split at hs
  all_goals first
   |(cases hs;done)
   |(rw[A4h.1 hs];exact(Ae8 ..).2)
 ·unfold Auk at hs
  repeat' split at hs
  all_goals first
   |exact Ao9 hs
   |(cases hs;done)
 ·unfold Amy at hs
  repeat' split at hs
  all_goals first
   |exact Avx hs
   |(cases hs;done)
 ·unfold Avb at hs;split at hs<;>cases hs
 ·unfold Avk at hs
  repeat' split at hs
  all_goals first
   |exact Ao9 hs
   |(cases hs;done)
 ·cases hs
 ·unfold Avh at hs
  repeat' split at hs
  all_goals first
   |(cases hs;done)
   |(rw[A4h.1 hs];exact(Ae8 ..).2)
 ·exact Asw _ (λs hs=>by rw[A4h.1 hs];rfl) s hs
theorem Aui {i:Image} {r:Req} {s:Step} (hs:s∈(U0 i r).1):s.i.vQ=i.vQ:=by
 unfold U0 at hs
 cases hm:Fa r with
 |false=>rw[hm]at hs;cases hs
 |true=>
  rw[hm,Ug Ae]at hs;split at hs
  ·cases hs
  ·exact A00 (PL hm) hs
theorem A0u (vQ:Int) (l:List Req):(Aif vQ l).vQ=vQ:=by
 have key: ∀(l:List Req) (i:Image),(l.foldl (λi r=>Aqe i (U0 i r).1) i).vQ=i.vQ:=λl=>by
  induction l with
  |nil=>exact λ_=>rfl
  |cons r l ih=>
   intro i;rw[A6m,ih];unfold Aqe
   cases hl:(U0 i r).1.getLast? with
   |none=>rfl
   |some s=>exact Aui (A8n hl)
 exact key l _
theorem Aj0 {n:Nat} {i:Image} (h:Rch n i) {T:Int} (ht:0<=T/\T<3) (oC:Bool):IB i T oC 0=if(Aj i.m T).state=2 then 0 else 180:=by
 have hm:=(CZ h.vT.vW).mY T;unfold IB;rw[Ug (λx=>x.elim (λe=>by rw[h.chk]at e;cases e) (λe=>e ht))];by_cases h2:(Aj i.m T).state=2
 ·have e:CN (Aj i.m T) oC 0=0:=by
   rw[Afi hm h2,Ug (λx=>x ⟨Ae,λ_=>rfl⟩),Ug Aa]
  rw[Ug (λx=>x e),Ug (λx=>x h2),WU h2]
 ·rw[Ug h2];have hf:decide ((0<=(0:Int)/\(0:Int)<=20)/\(oC=true->(0:Int)=0))=true:=Ac
  have e:CN (Aj i.m T) oC 0=0\/CN (Aj i.m T) oC 0=180:=by
   unfold CN ER;rw[hf,hm];cases Ci (Aj i.m T).state 2<;>simp
  rcases e with e|e
  ·rw[Ug (λx=>x e),WU h2]
  ·rw[WU (by rw[e];decide),e]
theorem Aj3 {l:List Opn} (hs:Ju Opn.lO l) {k:Int} (h:l.any (λo=>decide (o.lO=k))=true):HN l k=true/\ ∃o,l[Ob l k]?=some o/\o.lO=k:=by
 have hb:HN l k=true:=by
  rw[A0v k (by rw[A74];exact hs)];exact h
 refine⟨hb,?_⟩;unfold HN at hb;have hb:=A5c hb
 cases hg:l[Ob l k]? with
 |none=>rw[hg]at hb;cases hb
 |some o=>
  rw[hg]at hb;simp only[A4g,A26]at hb;exact⟨o,Y,hb⟩
theorem Afn {l:List Opn} (hs:Ju Opn.lO l) {i j:Nat} {a b:Opn} (ha:l[i]?=some a) (hb:l[j]?=some b) (h:a.lO=b.lO):a=b:=by
 obtain⟨h1,e1⟩:=ZH.1 ha;obtain⟨h2,e2⟩:=ZH.1 hb;have hp:=A52.1 hs;rcases A8x i j with kD|kD|kD
 ·have:=hp i j h1 h2 kD;rw[e1,e2]at this;omega
 ·subst kD;rw[<-e1,<-e2]
 ·have:=hp j i h2 h1 kD;rw[e1,e2]at this;omega
def A30 (vQ:Int) (p P:Part) (lO:Int) (oC:Bool):Prop:=
 (HN p.kI lO=false/\P.fin=p.fin/\P.rows=p.rows)\/ ∃o,HN p.kI lO=true/\p.kI[Ob p.kI lO]?=some o/\o∈p.kI/\P.rows=(KK p o oC).1/\P.fin=(KK p o oC).2+(if vQ=0 then 1 else 0)
theorem Afk (i:Image) (a b c:Coord) {q:Int} (hq:q=0\/q=1\/q=2):A5 (GQ i a b c) q=A5 i q:=by
 rcases hq with rfl|rfl|rfl<;>rfl
theorem Afl {n:Nat} {i:Image} (h:Rch n i) {T:Int} (ht:0<=T/\T<3) (h2:(Aj i.m T).state=2) (oC:Bool) {q:Int} (hq:q=0\/q=1\/q=2):A30 i.vQ (A5 i q) (A5 (QV i T oC 0).i q) (Aj i.m T).lO oC:=by
 have m9:=(CZ h.vT.vW).mY T;obtain⟨gI,hl⟩:=Hd (RW m9 Aa);have eE:=h.vT.pok q hq;have e:A5 (QV i T oC 0).i q=A5 (JU i T oC 0).i q:=Afk _ _ _ _ hq;rw[e];unfold JU;rw[Gd _ oC _ _ q gI hl hq];have e1:A5 (Dy i (AO i.m T (Dd (Aj i.m T) oC 0))) q=A5 i q:=rfl;have e2:(Dy i (AO i.m T (Dd (Aj i.m T) oC 0))).vQ=i.vQ:=rfl;simp only[e1,e2];generalize A5 i q=p at eE e1⊢;have cK:q∈(Aj i.m T).parts↔DW (A5 i q) (Aj i.m T).lO=true:=by rw[h.parts T ht];exact Aa9 hq
 have e3:DW (A5 i q) (Aj i.m T).lO=(A5 i q).kI.any (λo=>decide (o.lO=(Aj i.m T).lO)):=rfl;have e4:A5 i q=p:=e1;rw[e4]at cK e3;by_cases hh:DW p (Aj i.m T).lO=true
 ·rw[WU (cK.2 hh)];rw[e3]at hh;obtain⟨hb,o,ho,hp⟩:=Aj3 eE.vY hh;have he:=(Amx (Aeb (oC:=oC) (lO:=(Aj i.m T).lO) eE h.vT.vQ hq)).2;rcases he with⟨hn,_⟩|⟨k,o2,h1,h3,h4⟩
  ·exfalso;rw[A5i]at hn;have:=hn o (Apj ho);simp[hp]at this
  ·have:o2=o:=Afn eE.vY h1 ho (h3.trans hp.symm);subst this;exact .inr ⟨o2,hb,ho,Apj ho,by rw[h4];rfl,by rw[h4];rfl⟩
 ·rw[Ug (λx=>hh (cK.1 x))];refine .inl ⟨?_,Y,Y⟩;rw[A0v _ (by rw[A74];exact eE.vY),<-e3];revert hh;cases DW p (Aj i.m T).lO<;>simp
theorem Qk {vQ:Int} {p P:Part} {lO:Int} {oC:Bool} (hp:POk p) (h:A30 vQ p P lO oC): ∃bs:List Batch,P.rows=p.rows++Cq bs p.fin/\P.fin=p.fin+Ee bs+(if HN p.kI lO=true/\vQ=0 then 1 else 0)/\(∀x∈bs,A4 x=true)/\bs.length<=8/\((HN p.kI lO=false/\bs=[])\/ ∃o,HN p.kI lO=true/\p.kI[Ob p.kI lO]?=some o/\o.gG.length<=8/\((oC=true/\bs=o.gG)\/(oC=false/\bs=[]))):=by
 rcases h with⟨hB,hf,hr⟩|⟨o,hB,ho,hm,hr,hf⟩
 ·exact⟨[],by rw[hr];simp[Cq],by rw[hf,hB];simp[Ee],Ac,Ac,.inl ⟨hB,Y⟩⟩
 ·have hc:=(hp.ook o hm).1;have hl:=(CM hc).2
  cases oC with
  |true=>exact⟨o.gG,hr,by rw[hf,hB];simp[KK],λx hx=>(E2 hc x hx).1,hl,.inr ⟨o,hB,ho,hl,.inl ⟨Y,Y⟩⟩⟩
  |false=>exact⟨[],by rw[hr];simp[KK,Cq],by rw[hf,hB];simp[KK,Ee],Ac,Ac,.inr ⟨o,hB,ho,hl,.inr ⟨Y,Y⟩⟩⟩
theorem Aj1 {n:Nat} {i:Image} (h:Rch n i) (hn:n<=900) {T:Int} (ht:0<=T/\T<3) (h2:(Aj i.m T).state=2) {oC:Bool} {sA:Int} (hp:CN (Aj i.m T) oC sA=0):Aj (QV i T oC sA).i.m T=DT (C3 (Dd (Aj i.m T) oC sA)) []/\H4 (C3 (Dd (Aj i.m T) oC sA)) []=0/\EK (Dd (Aj i.m T) oC sA)=0:=by
 have m9:=(CZ h.vT.vW).mY T;obtain⟨_,hf,hx⟩:=MI hp;have hK:=Ap2 h hn ht hp h2;have e:Aj (QV i T oC sA).i.m T=F1 (Q4 i T oC sA) T:=Ro _ ht
 have ek:Aj (Q4 i T oC sA).m T=C3 (Dd (Aj i.m T) oC sA):=by
  have em:(Q4 i T oC sA).m=DY (AO i.m T (Dd (Aj i.m T) oC sA)) T:=rfl;rw[em,TX _ ht ht,WU Y,Gg _ ht]
 have hcm:=Ahm (J2 m9 h2 hf hx) (MH (Aj i.m T) oC sA)
 have hw:BF (Q4 i T oC sA) (Aj i.m T).lO=[]:=by
  have hz: ∀q,(q=0\/q=1\/q=2)->DW (A5 (Q4 i T oC sA) q) (Aj i.m T).lO=false:=λq hq=>by
   unfold DW;rw[A4u];intro o ho;have:=((Ali h hn ht h2 hq (oC:=oC) (sA:=sA)).2.2 o ho).2
   simpa using this
  have z0:=hz 0 Ac;have z1:=hz 1 Ac;have z2:=hz 2 Ac;simp only[A5,Int.reduceEq,Xs,ZF]at z0 z1 z2;unfold BF;rw[z0,z1,z2];rfl
 refine⟨?_,?_,MV (J2 m9 h2 hf hx) (MH ..)⟩
 ·rw[e];unfold F1;rw[ek,hcm.2];exact A5s _ hw
 ·unfold H4;rw[hcm.1];simp[CD,Gk]
theorem Afq {n:Nat} {i:Image} (h:Rch n i) (hn:n<=900) {T:Int} (ht:0<=T/\T<3) (h2:(Aj i.m T).state=2) (oC:Bool):(Aj (QV i T oC 0).i.m T).parts=[]/\MU (Aj (QV i T oC 0).i.m T) oC=true:=by
 have hp:CN (Aj i.m T) oC 0=0:=by rw[Afi ((CZ h.vT.vW).mY T) h2,Ug (λx=>x ⟨Ae,λ_=>rfl⟩),Ug Aa]
 obtain⟨e1,e2,e3⟩:=Aj1 h hn ht h2 hp
 have ec:C3 (Dd (Aj i.m T) oC 0)=⟨if oC=true then 5 else 6,(Aj i.m T).lO,(Aj i.m T).lT,(Aj i.m T).mZ,0,[],[],0⟩:=by
  unfold C3;rw[Ug (λx=>x e3)];cases oC<;>rfl
 rw[e1];rw[ec]at e2⊢;unfold DT;rw[Ug (λx=>x e2)];cases oC<;>simp[MU]
def Ae1 (s:MState):List Int:=[s.g00,s.g01,s.g02,s.g10,s.g11,s.g12]
theorem Afo {s s':MState} (h:Ae1 s=Ae1 s') (g q n:Int):Ae1 (Hw s g q n)=Ae1 (Hw s' g q n):=by
 simp only[Ae1,List.cons.injEq,A8b]at h;obtain⟨h1,h2,h3,h4,h5,h6⟩:=h;unfold Hw
 repeat' split
 all_goals simp[Ae1, *]
theorem Afj: ∀(l:List Pend) {s s':MState},Ae1 s=Ae1 s'->Ae1 (CQ s l)=Ae1 (CQ s' l)
 |[],_,_,h=>h
 |p::r,_,_,h=>Afj r (Afo h _ _ _)
theorem Ae2 (s:MState) (t:Int) (c:Coord):Ae1 (AO s t c)=Ae1 s:=by
 unfold AO;repeat' split
 all_goals rfl
theorem Afr (i:Image) {T:Int} (ht:0<=T/\T<3) (oC:Bool):Ae1 (QV i T oC 0).i.m=Ae1 (if oC=true then CQ i.m (Aj i.m T).rH else i.m):=by
 have e:Ae1 (QV i T oC 0).i.m=Ae1 (DY (AO i.m T (Dd (Aj i.m T) oC 0)) T):=rfl;rw[e];unfold DY;rw[Gg _ ht]
 cases oC with
 |true=>
  rw[WU (show(Dd (Aj i.m T) true 0).state=3 from rfl),WU Y];exact Afj _ (by rw[Ae2,Ae2])
 |false=>
  rw[Ug (show ¬(Dd (Aj i.m T) false 0).state=3 by show ¬(4:Int)=3;decide),Ug Ae];rw[Ae2,Ae2]
theorem Bi: ∀(l:List Pend) (s:MState) (p:Pend),CQ s (l++[p])=Hw (CQ s l) p.sZ p.part p.offset
 |[],_,_=>rfl
 |a::l,s,p=>Bi l (Hw s a.sZ a.part a.offset) p
