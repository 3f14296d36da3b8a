/- Lemmas toward the law; each names its conditions. -/
import Derived.Test.YtppffhlbcgpgdaaGreatDoorYK10
set_option linter.all false
set_option maxRecDepth 100000
set_option maxHeartbeats 8000000
namespace Go.Proofs.YtppffhlbcgpgdaaGreatDoor
open Go.Am
attribute [local irreducible] Decidable.decide Tr A6 CG EJ
theorem A0x (a b:Coord) (ha:SmallC a):A3z 41 [.agg (Af (AN a)),.agg (Af (AN b))] [] (.t (.bool (decide (a=b)))) []:=by
 have h1:=ha.parts;have h2:=ha.rH;have oD:(a.parts.map Cy).length=a.parts.length:=Ts ..;have f8:(b.parts.map Cy).length=b.parts.length:=Ts ..;have oW:(a.rH.map A3).length=a.rH.length:=Ts ..;have hpb:(b.rH.map A3).length=b.rH.length:=Ts ..;refine yF Tryz.func41 ?_
 repeat'(first|exact Au|refine yC ?_ ?_|refine⟨λh=>?_⟩|refine B5 6 10 ?_|refine B5 11 10 ?_|fail)
 all_goals try(refine Ah Y (BL (bF λe=>?_));subst e;first|exact absurd Y Ad|(simp_all;done))
 refine AW (ι:=Nat) (λi=>i<=a.parts.length/\a.parts.take i=b.parts.take i) (λi=>[(2,.ref 4 0),(3,.ref 6 0),(5,.t (.int .i64 i))]) (λ_=>[(6,.cells (Af (AN b))),(4,.cells (Af (AN a)))]) (λi=>a.parts.length-i) 0 Ac ?_ ?_
 ·exact Bb [] Aa6 Y
 rintro i ⟨hi,dR⟩;by_cases aC:i<a.parts.length
 ·have hr:a.parts[i]?=some a.parts[i]:=Kv aC;have hs:b.parts[i]?=some (b.parts[i]' Aa):=Kv _;generalize a.parts[i]=r at hr;generalize b.parts[i]' Aa=s at hs
  repeat'(first|exact Au|refine yC ?_ ?_|refine⟨λh=>?_⟩|refine B5 6 10 ?_|refine B5 11 10 ?_|fail)
  all_goals first
   |(exfalso;omega)
   |exact Ah Y (BL (bF (λe=>by subst e;rw[hr]at hs;cases hs;first|exact absurd Y Ad|(simp_all;done))))
   |(have e:r=s:=Aa
     refine AM (i+1) ⟨aC,Nw hr hs dR e⟩ Aa [] (Ag Y Y (Ag Y Y (Ag Y ?_ A8))) Y
     rw[A1 Aa Aa];rfl)
 have e6:a.parts=b.parts:=QF Aa Aa dR
 repeat'(first|exact Au|refine yC ?_ ?_|refine⟨λh=>?_⟩|refine B5 6 10 ?_|refine B5 11 10 ?_|fail)
 all_goals try(exfalso;omega)
 refine AW (ι:=Nat) (λi=>i<=a.rH.length/\a.rH.take i=b.rH.take i) (λi=>[(2,.ref 4 0),(3,.ref 6 0),(6,.t (.int .i64 i))]) (λ_=>[(6,.cells (Af (AN b))),(4,.cells (Af (AN a)))]) (λi=>a.rH.length-i) 0 Ac ?_ ?_
 ·exact Bb [] Aa6 Y
 rintro j ⟨hj,vL⟩;by_cases aC:j<a.rH.length
 ·have hr:a.rH[j]?=some a.rH[j]:=Kv aC;have hs:b.rH[j]?=some (b.rH[j]' Aa):=Kv _;generalize a.rH[j]=r at hr;generalize b.rH[j]' Aa=s at hs
  repeat'(first|exact Au|refine yC ?_ ?_|refine⟨λh=>?_⟩|refine B5 6 10 ?_|refine B5 11 10 ?_|fail)
  all_goals first
   |(exfalso;omega)
   |exact Ah Y (BL (bF (λe=>by subst e;rw[hr]at hs;cases hs;first|exact absurd Y Ad|(simp_all;done))))
   |(have e:r=s:=by cases r;cases s;simp_all
     refine AM (j+1) ⟨aC,Nw hr hs vL e⟩ Aa [] (Ag Y Y (Ag Y Y (Ag Y ?_ A8))) Y
     rw[A1 Aa Aa];rfl)
 have e7:a.rH=b.rH:=QF Aa Aa vL
 repeat'(first|exact Au|refine yC ?_ ?_|refine⟨λh=>?_⟩|refine B5 6 10 ?_|refine B5 11 10 ?_|fail)
 all_goals first
  |(exfalso;omega)
  |exact Ah Y (BL (bT (by cases a;cases b;simp_all)))
def G7 (c:Coord):Prop:= -128<=c.state/\c.state<=127
def Abq (p:Part) (lO:Int):AV:=match p.kI.find? (λo=>decide (o.lO=lO))with
 |some o=>.tuple [.agg (Af (An o)),.t (.bool true)]
 |none=>.tuple [.agg (Af Ajf.zero),.t (.bool false)]
theorem As5 {l:List Opn} {lO:Int} (h:l.find? (λo=>decide (o.lO=lO))=none):l.any (λo=>decide (o.lO=lO))=false:=by
 rw[A5i]at h;exact A4u.2 λx hx=>by simpa using h x hx
theorem Abp (p:Part) (lO:Int) (hs:AU p):A3z 97 [.agg (Af (Ax p)),.t (.int .i64 lO)] [] (Abq p lO) []:=by
 have cf:=Io p.kI lO hs.2.1
 cases h:p.kI.find? (λo=>decide (o.lO=lO))with
 |none=>
  have e:Abq p lO=.tuple [.agg (Af Ajf.zero),.t (.bool false)]:=by unfold Abq;rw[h]
  rw[e];rw[As5 h]at cf;refine yF Tryz.func97 ?_
  repeat'(first|exact Au|refine yC ?_ ?_|refine⟨λh=>?_⟩|fail)
  all_goals exact Ah Y (A3m Y)
 |some o=>
  have e:Abq p lO=.tuple [.agg (Af (An o)),.t (.bool true)]:=by unfold Abq;rw[h]
  rw[e];obtain⟨k,hk,eS,bG⟩:=Lx h;rw[eS,bG]at cf;have co:=Ki o (hs.2.2.1 o (Apj hk));refine yF Tryz.func97 ?_
  repeat'(first|exact Au|refine yC ?_ ?_|refine⟨λh=>?_⟩|fail)
  all_goals exact Ah Y (A3m Y)
theorem S3 (p:Part) (lO:Int): ∃a b m n es,Abq p lO=.tuple [.agg [.t (.int .i64 a),.t (.int .i64 b),.t (.slice m n es)],.t (.bool (DW p lO))]:=by
 unfold Abq
 cases h:p.kI.find? (λo=>decide (o.lO=lO))with
 |none=>exact⟨0,0,.nil,0,[],by rw[show DW p lO=false from As5 h];rfl⟩
 |some o=>
  obtain⟨k,hk,eS,bG⟩:=Lx h;exact⟨o.lO,o.lT,.any,5,o.gG.map Ak,by rw[show DW p lO=true from bG];rfl⟩
structure SmallI (i:Image):Prop where
 p0:AU i.p0
 p1:AU i.p1
 p2:AU i.p2
 t0:SmallC i.m.t0
 t1:SmallC i.m.t1
 t2:SmallC i.m.t2
theorem Jw (i:Image) (lO:Int) (hs:SmallI i):A3z 64 [.agg (Af (Ao i)),.t (.int .i64 lO)] [] (.t (.slice .any 1 ((BF i lO).map Cy))) []:=by
 have c0:=Abp i.p0 lO hs.p0;have c1:=Abp i.p1 lO hs.p1;have c2:=Abp i.p2 lO hs.p2;obtain⟨a0,b0,y0,z0,x0,e0⟩:=S3 i.p0 lO;obtain⟨a1,b1,y1,z1,x1,e1⟩:=S3 i.p1 lO;obtain⟨a2,b2,y2,z2,x2,e2⟩:=S3 i.p2 lO;rw[e0]at c0;rw[e1]at c1;rw[e2]at c2;unfold BF;have dO:IntKind.i64.wrap (0+1)=1:=by decide+kernel
 have dD:IntKind.i64.wrap (1+1)=2:=by decide+kernel
 have dZ:IntKind.i64.wrap (2+1)=3:=by decide+kernel
 generalize DW i.p0 lO=H0 at c0⊢;generalize DW i.p1 lO=H1 at c1⊢;generalize DW i.p2 lO=H2 at c2⊢;cases H0<;>cases H1<;>cases H2
 all_goals
  refine yF Tryz.func64 ?_
  repeat'(first|exact Au|refine yC ?_ ?_|refine⟨λh=>?_⟩|refine B6 5 ?_|refine BH ?_|rw[dO]|rw[dD]|rw[dZ]|fail)
  all_goals first
   |exact Ah Y (A3m Y)
   |exact Ah Y Ay
theorem A2t (b:Batch) (off:Int) (hb:A4 b=true) (h1: -1<=off) (h2:off<=2000000000):A3z 22 [.agg (Af (Ak b)),.t (.int .i64 off)] [] (.t (.slice .any 5 ((CA b off).map Aw))) []:=by
 have hm:=BV hb;have aQ:(b.rZ.map AX).length=b.rZ.length:=Ts ..;refine yF Tryz.func22 ?_
 repeat'(first|exact Au|refine yB ?_ ?_|refine⟨λh=>?_⟩|refine BA 5 23 ?_|fail)
 refine A3n 5 43 5 Y Y ?_;refine AW (ι:=Nat) (λi=>i<=b.rZ.length) (λi=>[(1,.t (.int .i64 off)),(2,.ref 4 0),(5,.row 86 5 0 (((b.rZ.take i).mapIdx (IX b off)).map Aw).length),(6,.t (.int .i64 i))]) (λi=>[(86,.grow 5 (((b.rZ.take i).mapIdx (IX b off)).map Aw)),(4,.cells (Af (Ak b)))]) (λi=>b.rZ.length-i) 0 Ac ?_ ?_
 ·exact Bb [] Aa6 Y
 rintro i hi;by_cases aC:i<b.rZ.length
 ·have hr:b.rZ[i]?=some b.rZ[i]:=Kv aC;generalize b.rZ[i]=r at hr;have dD:IntKind.i64.wrap (b.seq+i)=b.seq+i:=A1 Aa Aa;have dZ:IntKind.i64.wrap (off+i)=off+i:=A1 Aa Aa
  repeat'(first|exact Au|refine yC ?_ ?_|refine⟨λh=>?_⟩|refine BA 5 23 ?_|fail)
  all_goals refine AM (i+1) aC Aa [7] (Ag Y Y (Ag Y Y (Ag Y ?_ (Ag Y (by rw[A1 Aa Aa];rfl) A8)))) ?_
  all_goals rw[Afh hr,A38,IX]
  all_goals try rw[dD]
  all_goals try rw[dZ]
  all_goals first|rw[Ug h]|rw[WU (A34.1 h)]|rw[WU h]
  all_goals try rfl
 ·repeat'(first|exact Au|refine yC ?_ ?_|refine⟨λh=>?_⟩|refine BA 5 23 ?_|fail)
  refine Ah Y (A3m ?_);have ht:b.rZ.take i=b.rZ:=QQ Aa;rw[ht];exact(QT _ _ _ _ Y).trans (by rfl)
def Ob (l:List Opn) (k:Int):Nat:=(l.findIdx? (λx=>decide (x.lO>=k))).getD l.length
def HN (l:List Opn) (k:Int):Bool:=decide ((l[Ob l k]?.map Opn.lO)=some k)
theorem Apl {l:List Opn} {k:Int} {i:Nat} {x:Opn} (h:l[i]?=some x) (ha:(l.take i).any (λx=>decide (x.lO>=k))=false) (hp:k<=x.lO):Ob l k=i:=by
 have aC:=(ZH.1 h).1;have e:=(ZH.1 h).2
 have:l.findIdx? (λx=>decide (x.lO>=k))=some i:=by
  rw[A6o];refine⟨aC,by rw[e];simpa using hp,λj hj=>?_⟩;have:=A4u.1 ha l[j] (A51.2 ⟨j,Aa,Y⟩)
  simpa using this
 simp[Ob,this]
theorem Api {l:List Opn} {k:Int} (ha:l.any (λx=>decide (x.lO>=k))=false):Ob l k=l.length:=by
 have:l.findIdx? (λx=>decide (x.lO>=k))=none:=by
  rw[A5e];intro x hx;simpa using A4u.1 ha x hx
 simp[Ob,this]
theorem A04 (p:Part) (k:Int) (hl:p.kI.length<=1000000):A3z 21 [.agg (Af (Ax p)),.t (.int .i64 k)] [] (.tuple [.t (.int .i64 (Ob p.kI k:Int)),.t (.bool (HN p.kI k))]) []:=by
 have aQ:(p.kI.map An).length=p.kI.length:=Ts ..;refine yF Tryz.func21 ?_
 repeat'(first|exact Au|refine yB ?_ ?_|refine⟨λh=>?_⟩|refine BA 4 17 ?_|fail)
 refine AW (ι:=Nat) (λi=>i<=p.kI.length/\(p.kI.take i).any (λx=>decide (x.lO>=k))=false) (λi=>[(1,.t (.int .i64 k)),(2,.ref 4 0),(6,.t (.int .i64 i))]) (λ_=>[(4,.cells (Af (Ax p)))]) (λi=>p.kI.length-i) 0 Ac ?_ ?_
 ·exact Bb [] Aa6 Y
 rintro i ⟨hi,bG⟩;by_cases aC:i<p.kI.length
 ·have hr:p.kI[i]?=some p.kI[i]:=Kv aC;generalize p.kI[i]=r at hr;by_cases hk:r.lO<k
  ·repeat'(first|exact Au|refine yC ?_ ?_|refine⟨λh=>?_⟩|refine BA 4 17 ?_|fail)
   all_goals try(exfalso;omega)
   all_goals refine AM (i+1) ⟨aC,FH hr bG (by simp;omega)⟩ Aa [] (Ag Y Y (Ag Y Y (Ag Y (by rw[A1 Aa Aa];rfl) A8))) Y
  ·have hp:=Apl hr bG Aa;have hb:HN p.kI k=decide (r.lO=k):=by simp[HN,hp,hr]
   rw[hp,hb]
   repeat'(first|exact Au|refine yC ?_ ?_|refine⟨λh=>?_⟩|refine BA 4 17 ?_|fail)
   all_goals try(exfalso;omega)
   all_goals exact Ah Y (As ⟨A3l _,BL (by first|rfl|(by_cases h:r.lO=k<;>simp[h])),trivial⟩)
 ·have hp:=Api (k:=k) (l:=p.kI) (by rw[<-bG,QQ Aa]);have hb:HN p.kI k=false:=by simp[HN,hp]
  have e:i=p.kI.length:=Aa;subst e;rw[hp,hb]
  repeat'(first|exact Au|refine yC ?_ ?_|refine⟨λh=>?_⟩|refine BA 4 17 ?_|fail)
  all_goals exact Ah Y (A3m Y)
def wM (b:Bs):Blk:=.cells [.t (.slice .any 1 (b.map Ba)),.t (.int .i64 0)]
theorem Jv (n lo hi:Int) (h0:0<=n) (hn:n<=1099511627776):A3z 215 [.ref 1 0,.ref 3 0,.t (.int .i64 lo),.t (.int .i64 hi)] [(1,.cells [.t (.slice .nil 0 []),.t (.int .i64 0)]),(3,.cells [.t (.int .i64 n)])] (.tuple []) [(1,wM (Bp n.toNat)),(3,.cells [.t (.int .i64 n)])]:=by
 have cn:A3z 253 [.t (.slice .nil 0 []),.t (.int .i64 n)] [] _ []:=(Cd [] n h0 hn Ac).args ⟨U6,A3l _,trivial⟩;refine yG Tryz.func215 ?_
 repeat'(first|exact Au|refine yC ?_ ?_|refine⟨λh=>?_⟩|refine BA 0 12 ?_|fail)
 exact AE [] Y Y Y (A3l _)
theorem Aiu (b:Bs) (e:MEntry) (lo hi:Int) (h0:0<=e.mY) (hn:e.mY<=1099511627776) (hb:b.length<=1000000000):A3z 215 [.ref 1 0,.ref 3 1,.t (.int .i64 lo),.t (.int .i64 hi)] [(1,wM b),(3,.cells (Af (Al e)))] (.tuple []) [(1,wM (b++Bp e.mY.toNat)),(3,.cells (Af (Al e)))]:=by
 have cn:=Cd b e.mY h0 hn hb;refine yG Tryz.func215 ?_
 repeat'(first|exact Au|refine yC ?_ ?_|refine⟨λh=>?_⟩|refine BA 0 12 ?_|fail)
 exact AE [] Y Y Y (A3l _)
theorem Aip (b:Bs) (e:MEntry) (lo hi:Int) (h0:0<=e.sA) (hn:e.sA<=1099511627776) (hb:b.length<=1000000000):A3z 215 [.ref 1 0,.ref 3 7,.t (.int .i64 lo),.t (.int .i64 hi)] [(1,wM b),(3,.cells (Af (Al e)))] (.tuple []) [(1,wM (b++Bp e.sA.toNat)),(3,.cells (Af (Al e)))]:=by
 have cn:=Cd b e.sA h0 hn hb;refine yG Tryz.func215 ?_
 repeat'(first|exact Au|refine yC ?_ ?_|refine⟨λh=>?_⟩|refine BA 0 12 ?_|fail)
 exact AE [] Y Y Y (A3l _)
theorem Aix (b:Bs) (e:MEntry) (hb:b.length<=1000000000):A3z 388 [.ref 1 0,.ref 3 6] [(1,wM b),(3,.cells (Af (Al e)))] (.tuple []) [(1,wM (b++DB e.oC)),(3,.cells (Af (Al e)))]:=by
 have cn:=JF b e.oC hb;refine yG Tryz.func388 ?_
 repeat'(first|exact Au|refine yC ?_ ?_|refine⟨λh=>?_⟩|refine BA 0 9 ?_|refine D4 0 9 [(11,1)] [0,0,2,6,14,0,32,96,254,511,1023,2047] ?_|fail)
 exact AE [] Y Y Y (A3l _)
def JB:AV:=.agg [.iface 334 (.ref 1 0),.ref 3 0]
theorem QS (b:Bs) (e:MEntry) (h0:0<=e.mY) (hn:e.mY<=1099511627776) (hb:b.length<=1000000000):A3z 258 [JB] [(1,wM b),(3,.cells (Af (Al e)))] (.tuple []) [(1,wM (b++Bp e.mY.toNat)),(3,.cells (Af (Al e)))]:=by
 have cn:=Aiu b e 0 2 h0 hn hb;refine yG Tryz.func258 ?_
 repeat'(first|exact Au|refine yC ?_ ?_|refine⟨λh=>?_⟩|refine BA 1 8 ?_|refine BT [(1,1),(3,3)] [(1,1),(3,3)] cn ?_|fail)
 exact AE [1] Y Y Y (A3l _)
theorem Amb (b:Bs) (e:MEntry) (h0:0<=e.mY) (hn:e.mY<=1000000) (h2:0<=e.sA) (h3:e.sA<=1000000) (hb:b.length<=1000):A3z 257 [JB] [(1,wM b),(3,.cells (Af (Al e)))] (.tuple []) [(1,wM (((b++Bp e.mY.toNat)++DB e.oC)++Bp e.sA.toNat)),(3,.cells (Af (Al e)))]:=by
 have l1:=AL (n:=e.mY.toNat) Aa;have c1:=QS b e h0 Aa Aa;have c2:=Aix (b++Bp e.mY.toNat) e (by simp;omega);have c3:=Aip ((b++Bp e.mY.toNat)++DB e.oC) e 0 20 h2 Aa (by simp[DB];omega);refine yG Tryz.func257 ?_
 repeat'(first|exact Au|refine yC ?_ ?_|refine⟨λh=>?_⟩|refine BA 2 8 ?_|refine BA 3 8 ?_|refine BT [(1,1),(3,3)] [(1,1),(3,3)] c1 ?_|refine BT [(1,1),(3,3)] [(1,1),(3,3)] c2 ?_|refine BT [(1,1),(3,3)] [(1,1),(3,3)] c3 ?_|fail)
 exact AE [1] Y Y Y (A3l _)
theorem Aml (b:Bs) (mY:Int) (oC:Bool) (sA:Int) (h1:0<=mY/\mY<3) (h2:0<=sA/\sA<=20) (hb:b.length<=1000):A3z 216 [JB] [(1,wM b),(3,.cells (Af (Al (e3 mY oC sA))))] (.tuple []) [(1,wM (((b++Bp mY.toNat)++DB oC)++Bp sA.toNat)),(3,.cells (Af (Al (e3 mY oC sA))))]:=by
 have hk:IntKind.i64.wrap 3=3:=by decide+kernel
 rw[QP];have cn:=Amb b (e3 mY oC sA) h1.1 (show mY<=1000000 from Aa) h2.1 (show sA<=1000000 from Aa) hb;refine yG Tryz.func216 ?_
 repeat'(first|exact Au|refine yC ?_ ?_|refine⟨λh=>?_⟩|refine BA 4 4 ?_|rw[hk]|refine BT [(1,1),(3,3)] [(1,1),(3,3)] cn ?_|fail)
 all_goals first
  |(exfalso;simp_all;done)
  |exact AE [1,2] Y Y Y (A3l _)
theorem Amk (b:Bs) (mY:Int) (h1:0<=mY/\mY<3) (hb:b.length<=1000):A3z 216 [JB] [(1,wM b),(3,.cells (Af (Al (e4 mY))))] (.tuple []) [(1,wM (b++Bp mY.toNat)),(3,.cells (Af (Al (e4 mY))))]:=by
 have hk:IntKind.i64.wrap 4=4:=by decide+kernel
 rw[Kq];have cn:=QS b (e4 mY) h1.1 (show mY<=1099511627776 from Aa) Aa;refine yG Tryz.func216 ?_
 repeat'(first|exact Au|refine yC ?_ ?_|refine⟨λh=>?_⟩|refine BA 4 4 ?_|rw[hk]|refine BT [(1,1),(3,3)] [(1,1),(3,3)] cn ?_|fail)
 all_goals first
  |(exfalso;simp_all;done)
  |exact AE [1,2] Y Y Y (A3l _)
def JT (mY:Int) (oC:Bool) (sA:Int):Bs:=((Bp 3++Bp mY.toNat)++DB oC)++Bp sA.toNat
def JS (mY:Int):Bs:=Bp 4++Bp mY.toNat
theorem Aso:(Bp 3).length<=6:=AL Aa
theorem Asn:(Bp 4).length<=6:=AL Aa
theorem Aqp {mY:Int} {oC:Bool} {sA:Int} (h1:0<=mY/\mY<3) (h2:0<=sA/\sA<=20):(JT mY oC sA).length<=1024:=by
 have l1:=AL (n:=mY.toNat) Aa;have l2:=AL (n:=sA.toNat) Aa;have l3:=Aso;simp[JT,DB];omega
theorem Aqn {mY:Int} (h1:0<=mY/\mY<3):(JS mY).length<=1024:=by
 have l1:=AL (n:=mY.toNat) Aa;have l3:=Asn;simp[JS];omega
theorem Aeo (mY:Int) (oC:Bool) (sA:Int) (h1:0<=mY/\mY<3) (h2:(0<=sA/\sA<=20)/\(oC=true->sA=0)):A3z 149 [.agg (Af (Al (e3 mY oC sA)))] [] (.tuple [.t (.str (JT mY oC sA)),.t .nilIface]) []:=by
 have hk:IntKind.i64.wrap 3=3:=by decide+kernel
 rw[QP];have cm:=Adx mY oC sA h1 h2;have c1:=Jv 3 0 7 Aa Aa;have c2:=Aml (Bp 3) mY oC sA h1 h2.1 (by have:=Aso;omega);refine yF Tryz.func149 ?_
 repeat'(first|exact Au|refine yC ?_ ?_|refine⟨λh=>?_⟩|refine BA 8 8 ?_|rw[hk]|refine BT [(26,1),(10,3)] [(1,26),(3,10)] c1 ?_|refine BT [(26,1),(2,3)] [(1,26),(3,2)] c2 ?_|refine Ev Ai Y Y Y Y Y Y (CE _).symm Y ?_|fail)
 all_goals first
  |(exfalso;simp_all;done)
  |exact Ah Y (A3m Y)
theorem Aen (mY:Int) (h1:0<=mY/\mY<3):A3z 149 [.agg (Af (Al (e4 mY)))] [] (.tuple [.t (.str (JS mY)),.t .nilIface]) []:=by
 have hk:IntKind.i64.wrap 4=4:=by decide+kernel
 rw[Kq];have cm:=Adw mY h1;have c1:=Jv 4 0 7 Aa Aa;have c2:=Amk (Bp 4) mY h1 (by have:=Asn;omega);refine yF Tryz.func149 ?_
 repeat'(first|exact Au|refine yC ?_ ?_|refine⟨λh=>?_⟩|refine BA 8 8 ?_|rw[hk]|refine BT [(26,1),(10,3)] [(1,26),(3,10)] c1 ?_|refine BT [(26,1),(2,3)] [(1,26),(3,2)] c2 ?_|refine Ev Ai Y Y Y Y Y Y (CE _).symm Y ?_|fail)
 all_goals first
  |(exfalso;simp_all;done)
  |exact Ah Y (A3m Y)
def Adt (e:Int):Bs:=[if e=0 then 105 else 98,109]
theorem Akq (e:Int) (he:e=0\/e=1):A3z 148 [.t (.int .i8 e)] [] (.t (.str (Adt e))) []:=Ak3 e he
def Gn (e:Int) (b:Bs):List Wr:=[⟨0,Adt e,Wj b,0⟩,⟨1,Adt e,[],0⟩]
theorem VU (e:Int) (he:e=0\/e=1) (x:MEntry) (b:Bs) (hb:b.length<=1024) (hw:A3z 149 [.agg (Af (Al x))] [] (.tuple [.t (.str b),.t .nilIface]) []):A3z 101 [.t (.int .i8 e),.t (.slice .any 17 [Al x])] [] (.tuple [.row 102 4 0 2,.t (.int .i64 0)]) [(102,.grow 4 ((Gn e b).map BE))]:=by
 have cn:=Akq e he;have cf:=Pv b hb;have dD:IntKind.i64.wrap (0+1)=1:=by decide+kernel
 refine yG Tryz.func101 ?_
 repeat'(first|exact Au|refine yC ?_ ?_|refine⟨λh=>?_⟩|refine B6 3 ?_|refine BH ?_|rw[dD]|fail)
 all_goals first
  |(exfalso;simp_all[Adt];done)
  |exact A0 [] Y Y Y (A3l _)
  |exact A0 [9] Y Y Y (A3l _)
