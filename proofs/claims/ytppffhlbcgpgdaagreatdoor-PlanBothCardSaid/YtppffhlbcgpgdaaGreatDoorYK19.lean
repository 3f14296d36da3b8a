/- Lemmas toward the law; each names its conditions. -/
import Derived.Test.YtppffhlbcgpgdaaGreatDoorYK13
set_option linter.all false
set_option maxRecDepth 100000
set_option maxHeartbeats 8000000
namespace Go.Proofs.YtppffhlbcgpgdaaGreatDoor
open Go.Am
attribute [local irreducible] Decidable.decide Tr A6 CG EJ
def e0:MEntry:=D9 0
def e1 (mY aP:Int):MEntry:={D9 1 with mY:=mY,mZ:=aP}
def e2 (mY:Int) (p:Pend):MEntry:={D9 2 with mY:=mY,vU:=p}
def e5 (p:Pend):MEntry:={D9 5 with vU:=p}
def Ags (k mY aP g q o:Int):List T:=[.int .i8 k,.int .i64 mY,.int .i64 aP,.int .i64 g,.int .i64 q,.int .i64 o,.bool false,.int .i64 0,.int .i8 0,.int .i64 0,.int .i64 0,.int .i64 0,.int .i64 0,.slice .any 1 [],.slice .any 3 [],.int .i64 0,.int .i64 0]
def Aai (k mY aP g q o:Int):List T:=[.int .i8 k,.int .i64 mY,.int .i64 aP,.int .i64 g,.int .i64 q,.int .i64 o,.bool false,.int .i64 0,.int .i8 0,.int .i64 0,.int .i64 0,.int .i64 0,.int .i64 0,.slice .nil 0 [],.slice .nil 0 [],.int .i64 0,.int .i64 0]
theorem KY (k mY aP g q o:Int):Aq (.agg (Af (Aai k mY aP g q o))) (.agg (Af (Ags k mY aP g q o))):=AC (show Fv _ _ from⟨A3l _,A3l _,A3l _,A3l _,A3l _,A3l _,A3l _,A3l _,A3l _,A3l _,A3l _,A3l _,A3l _,Ay,Ay,A3l _,A3l _,trivial⟩)
theorem Ks:Al e0=Ags 0 0 0 0 0 0:=rfl
theorem HU (mY aP:Int):Al (e1 mY aP)=Ags 1 mY aP 0 0 0:=rfl
theorem Kr (mY:Int) (p:Pend):Al (e2 mY p)=Ags 2 mY 0 p.sZ p.part p.offset:=rfl
theorem LV (p:Pend):Al (e5 p)=Ags 5 0 0 p.sZ p.part p.offset:=rfl
theorem Yu (p:Pend) (h:AZ p=true):A3z 209 [.agg (Af (A3 p))] [] (.t (.bool true)) []:=by
 simp only[AZ,Uj]at h;refine yF Tryz.func209 ?_
 repeat'(first|exact Au|refine yC ?_ ?_|refine⟨λh=>?_⟩|fail)
 all_goals first
  |(exfalso;omega)
  |(refine Ah Y (BL ?_);simp_all;done)
  |(refine Ah Y (BL ?_);simp_all;omega)
theorem VX:A3z 144 [.agg (Af (Al e0))] [] (.t (.bool true)) []:=by
 have cs:A3z 210 [.agg (Af (Al e0)),.agg (Af (Aai 0 0 0 0 0 0))] [] (.t (.bool true)) []:=(J8 e0 JV).args ⟨A3l _,KY 0 0 0 0 0 0,trivial⟩;unfold Aai at cs;rw[Ks]at cs⊢;refine yF Tryz.func144 ?_
 repeat'(first|exact Au|refine yC ?_ ?_|refine⟨λh=>?_⟩|refine BA 16 6 ?_|fail)
 all_goals first
  |(exfalso;simp_all;done)
  |exact Ah Y (BL (by simp_all))
theorem NR (mY aP:Int) (h1:0<=mY/\mY<3) (h2:1<=aP/\aP<=20):A3z 144 [.agg (Af (Al (e1 mY aP)))] [] (.t (.bool true)) []:=by
 have cs:A3z 210 [.agg (Af (Al (e1 mY aP))),.agg (Af (Aai 1 mY aP 0 0 0))] [] (.t (.bool true)) []:=(J8 (e1 mY aP) JV).args ⟨A3l _,KY 1 mY aP 0 0 0,trivial⟩;rw[HU]at cs⊢;refine yF Tryz.func144 ?_
 repeat'(first|exact Au|refine yC ?_ ?_|refine⟨λh=>?_⟩|refine BA 16 6 ?_|fail)
 all_goals first
  |(exfalso;simp_all;done)
  |(exfalso;simp_all;omega)
  |exact Ah Y (BL (by simp_all))
theorem VW (mY:Int) (p:Pend) (h1:0<=mY/\mY<3) (h2:AZ p=true):A3z 144 [.agg (Af (Al (e2 mY p)))] [] (.t (.bool true)) []:=by
 have cs:A3z 210 [.agg (Af (Al (e2 mY p))),.agg (Af (Aai 2 mY 0 p.sZ p.part p.offset))] [] (.t (.bool true)) []:=(J8 (e2 mY p) JV).args ⟨A3l _,KY 2 mY 0 p.sZ p.part p.offset,trivial⟩;rw[Kr]at cs⊢;have cp:=Yu p h2;refine yF Tryz.func144 ?_
 repeat'(first|exact Au|refine yC ?_ ?_|refine⟨λh=>?_⟩|refine BA 16 6 ?_|fail)
 all_goals first
  |(exfalso;simp_all;done)
  |(exfalso;simp_all;omega)
  |exact Ah Y (BL (by simp_all))
theorem Adv (p:Pend) (h2:AZ p=true):A3z 144 [.agg (Af (Al (e5 p)))] [] (.t (.bool true)) []:=by
 have cs:A3z 210 [.agg (Af (Al (e5 p))),.agg (Af (Aai 5 0 0 p.sZ p.part p.offset))] [] (.t (.bool true)) []:=(J8 (e5 p) JV).args ⟨A3l _,KY 5 0 0 p.sZ p.part p.offset,trivial⟩;rw[LV]at cs⊢;have cp:=Yu p h2;refine yF Tryz.func144 ?_
 repeat'(first|exact Au|refine yC ?_ ?_|refine⟨λh=>?_⟩|refine BA 16 6 ?_|fail)
 all_goals first
  |(exfalso;simp_all;done)
  |(exfalso;simp_all;omega)
  |exact Ah Y (BL (by simp_all))
theorem Ait (b:Bs) (e:MEntry) (lo hi:Int) (h0:0<=e.mZ) (hn:e.mZ<=1099511627776) (hb:b.length<=1000000000):A3z 215 [.ref 1 0,.ref 3 2,.t (.int .i64 lo),.t (.int .i64 hi)] [(1,wM b),(3,.cells (Af (Al e)))] (.tuple []) [(1,wM (b++Bp e.mZ.toNat)),(3,.cells (Af (Al e)))]:=by
 have cn:=Cd b e.mZ h0 hn hb;refine yG Tryz.func215 ?_
 repeat'(first|exact Au|refine yC ?_ ?_|refine⟨λh=>?_⟩|refine BA 0 12 ?_|fail)
 exact AE [] Y Y Y (A3l _)
theorem Ais (b:Bs) (e:MEntry) (lo hi:Int) (h0:0<=e.vU.sZ) (hn:e.vU.sZ<=1099511627776) (hb:b.length<=1000000000):A3z 215 [.ref 1 0,.ref 3 3,.t (.int .i64 lo),.t (.int .i64 hi)] [(1,wM b),(3,.cells (Af (Al e)))] (.tuple []) [(1,wM (b++Bp e.vU.sZ.toNat)),(3,.cells (Af (Al e)))]:=by
 have cn:=Cd b e.vU.sZ h0 hn hb;refine yG Tryz.func215 ?_
 repeat'(first|exact Au|refine yC ?_ ?_|refine⟨λh=>?_⟩|refine BA 0 12 ?_|fail)
 exact AE [] Y Y Y (A3l _)
theorem Air (b:Bs) (e:MEntry) (lo hi:Int) (h0:0<=e.vU.part) (hn:e.vU.part<=1099511627776) (hb:b.length<=1000000000):A3z 215 [.ref 1 0,.ref 3 4,.t (.int .i64 lo),.t (.int .i64 hi)] [(1,wM b),(3,.cells (Af (Al e)))] (.tuple []) [(1,wM (b++Bp e.vU.part.toNat)),(3,.cells (Af (Al e)))]:=by
 have cn:=Cd b e.vU.part h0 hn hb;refine yG Tryz.func215 ?_
 repeat'(first|exact Au|refine yC ?_ ?_|refine⟨λh=>?_⟩|refine BA 0 12 ?_|fail)
 exact AE [] Y Y Y (A3l _)
theorem Aiq (b:Bs) (e:MEntry) (lo hi:Int) (h0:0<=e.vU.offset) (hn:e.vU.offset<=1099511627776) (hb:b.length<=1000000000):A3z 215 [.ref 1 0,.ref 3 5,.t (.int .i64 lo),.t (.int .i64 hi)] [(1,wM b),(3,.cells (Af (Al e)))] (.tuple []) [(1,wM (b++Bp e.vU.offset.toNat)),(3,.cells (Af (Al e)))]:=by
 have cn:=Cd b e.vU.offset h0 hn hb;refine yG Tryz.func215 ?_
 repeat'(first|exact Au|refine yC ?_ ?_|refine⟨λh=>?_⟩|refine BA 0 12 ?_|fail)
 exact AE [] Y Y Y (A3l _)
theorem Amd (b:Bs) (e:MEntry):A3z 254 [JB] [(1,wM b),(3,.cells (Af (Al e)))] (.tuple []) [(1,wM b),(3,.cells (Af (Al e)))]:=by
 refine yG Tryz.func254 ?_
 repeat'(first|exact Au|refine yC ?_ ?_|refine⟨λh=>?_⟩|fail)
 exact AE [1] Y Y Y (A3l _)
theorem Ahb (b:Bs) (e:MEntry) (h0:0<=e.mY) (hn:e.mY<=1000000) (h2:0<=e.mZ) (h3:e.mZ<=1000000) (hb:b.length<=1000):A3z 255 [JB] [(1,wM b),(3,.cells (Af (Al e)))] (.tuple []) [(1,wM ((b++Bp e.mY.toNat)++Bp e.mZ.toNat)),(3,.cells (Af (Al e)))]:=by
 have l1:=AL (n:=e.mY.toNat) Aa;have c1:=QS b e h0 Aa Aa;have c2:=Ait (b++Bp e.mY.toNat) e 1 20 h2 Aa (by simp;omega);refine yG Tryz.func255 ?_
 repeat'(first|exact Au|refine yC ?_ ?_|refine⟨λh=>?_⟩|refine BA 2 8 ?_|refine BT [(1,1),(3,3)] [(1,1),(3,3)] c1 ?_|refine BT [(1,1),(3,3)] [(1,1),(3,3)] c2 ?_|fail)
 exact AE [1] Y Y Y (A3l _)
def Lk (p:Pend):Bs:=(Bp p.sZ.toNat++Bp p.part.toNat)++Bp p.offset.toNat
theorem U1 {p:Pend} (h:AZ p=true):(Lk p).length<=18:=by
 simp only[AZ,Uj]at h;have l1:=AL (n:=p.sZ.toNat) Aa;have l2:=AL (n:=p.part.toNat) Aa;have l3:=AL (n:=p.offset.toNat) Aa;simp[Lk];omega
theorem Y8 (b:Bs) (e:MEntry) (h:AZ e.vU=true) (hb:b.length<=1000):A3z 286 [JB,.ref 3 3] [(1,wM b),(3,.cells (Af (Al e)))] (.tuple []) [(1,wM (b++Lk e.vU)),(3,.cells (Af (Al e)))]:=by
 have h':=h;simp only[AZ,Uj]at h';have l1:=AL (n:=e.vU.sZ.toNat) Aa;have l2:=AL (n:=e.vU.part.toNat) Aa;have c1:=Ais b e 0 1 Aa Aa Aa;have c2:=Air (b++Bp e.vU.sZ.toNat) e 0 2 Aa Aa (by simp;omega);have c3:=Aiq ((b++Bp e.vU.sZ.toNat)++Bp e.vU.part.toNat) e 0 1048576 Aa Aa (by simp;omega);rw[show b++Lk e.vU=((b++Bp e.vU.sZ.toNat)++Bp e.vU.part.toNat)++Bp e.vU.offset.toNat from by simp[Lk,A33]];refine yG Tryz.func286 ?_
 repeat'(first|exact Au|refine yC ?_ ?_|refine⟨λh=>?_⟩|refine BA 1 7 ?_|refine BA 2 7 ?_|refine BA 3 7 ?_|refine BT [(1,1),(3,3)] [(1,1),(3,3)] c1 ?_|refine BT [(1,1),(3,3)] [(1,1),(3,3)] c2 ?_|refine BT [(1,1),(3,3)] [(1,1),(3,3)] c3 ?_|fail)
 exact AE [2] Y Y Y (A3l _)
theorem Abr (b:Bs) (e:MEntry) (h0:0<=e.mY) (hn:e.mY<=1000000) (h:AZ e.vU=true) (hb:b.length<=900):A3z 256 [JB] [(1,wM b),(3,.cells (Af (Al e)))] (.tuple []) [(1,wM ((b++Bp e.mY.toNat)++Lk e.vU)),(3,.cells (Af (Al e)))]:=by
 have l1:=AL (n:=e.mY.toNat) Aa;have c1:=QS b e h0 Aa Aa;have c2:=Y8 (b++Bp e.mY.toNat) e h (by simp;omega);refine yG Tryz.func256 ?_
 repeat'(first|exact Au|refine yC ?_ ?_|refine⟨λh=>?_⟩|refine BA 2 5 ?_|refine BT [(1,1),(3,3)] [(1,1),(3,3)] c1 ?_|refine BT [(1,1),(3,3)] [(1,1),(3,3)] c2 ?_|fail)
 exact AE [1] Y Y Y (A3l _)
theorem Abx (b:Bs) (e:MEntry) (h:AZ e.vU=true) (hb:b.length<=1000):A3z 259 [JB] [(1,wM b),(3,.cells (Af (Al e)))] (.tuple []) [(1,wM (b++Lk e.vU)),(3,.cells (Af (Al e)))]:=by
 have c2:=Y8 b e h hb;refine yG Tryz.func259 ?_
 repeat'(first|exact Au|refine yC ?_ ?_|refine⟨λh=>?_⟩|refine BA 1 5 ?_|refine BT [(1,1),(3,3)] [(1,1),(3,3)] c2 ?_|fail)
 exact AE [1] Y Y Y (A3l _)
def Qo:Bs:=Bp 0
def ZJ (mY aP:Int):Bs:=(Bp 1++Bp mY.toNat)++Bp aP.toNat
def Qn (mY:Int) (p:Pend):Bs:=(Bp 2++Bp mY.toNat)++Lk p
def Oc (p:Pend):Bs:=Bp 5++Lk p
theorem P7 {k:Nat} (h:k<=8):(Bp k).length<=6:=AL Aa
theorem Aqt:Qo.length<=1024:=by have:=P7 (k:=0) Aa;unfold Qo;omega
theorem Aqs {mY aP:Int} (h1:0<=mY/\mY<3) (h2:1<=aP/\aP<=20):(ZJ mY aP).length<=1024:=by
 have l1:=AL (n:=mY.toNat) Aa;have l2:=AL (n:=aP.toNat) Aa;have l3:=P7 (k:=1) Aa;simp[ZJ];omega
theorem Aqr {mY:Int} {p:Pend} (h1:0<=mY/\mY<3) (h2:AZ p=true):(Qn mY p).length<=1024:=by
 have l1:=AL (n:=mY.toNat) Aa;have l2:=U1 h2;have l3:=P7 (k:=2) Aa;simp[Qn];omega
theorem Aqm {p:Pend} (h2:AZ p=true):(Oc p).length<=1024:=by
 have l2:=U1 h2;have l3:=P7 (k:=5) Aa;simp[Oc];omega
theorem Amp (b:Bs) (hb:b.length<=900):A3z 216 [JB] [(1,wM b),(3,.cells (Af (Al e0)))] (.tuple []) [(1,wM b),(3,.cells (Af (Al e0)))]:=by
 have hk:IntKind.i64.wrap 0=0:=by decide+kernel
 have cn:=Amd b e0;rw[Ks]at cn⊢;refine yG Tryz.func216 ?_
 repeat'(first|exact Au|refine yC ?_ ?_|refine⟨λh=>?_⟩|refine BA 4 4 ?_|rw[hk]|refine BT [(1,1),(3,3)] [(1,1),(3,3)] cn ?_|fail)
 all_goals first
  |(exfalso;simp_all;done)
  |exact AE [1,2] Y Y Y (A3l _)
theorem Amo (b:Bs) (mY aP:Int) (h1:0<=mY/\mY<3) (h2:1<=aP/\aP<=20) (hb:b.length<=900):A3z 216 [JB] [(1,wM b),(3,.cells (Af (Al (e1 mY aP))))] (.tuple []) [(1,wM ((b++Bp mY.toNat)++Bp aP.toNat)),(3,.cells (Af (Al (e1 mY aP))))]:=by
 have hk:IntKind.i64.wrap 1=1:=by decide+kernel
 have cn:=Ahb b (e1 mY aP) h1.1 (show mY<=1000000 from Aa) (show 0<=aP from Aa) (show aP<=1000000 from Aa) Aa;rw[HU]at cn⊢;refine yG Tryz.func216 ?_
 repeat'(first|exact Au|refine yC ?_ ?_|refine⟨λh=>?_⟩|refine BA 4 4 ?_|rw[hk]|refine BT [(1,1),(3,3)] [(1,1),(3,3)] cn ?_|fail)
 all_goals first
  |(exfalso;simp_all;done)
  |exact AE [1,2] Y Y Y (A3l _)
theorem Amn (b:Bs) (mY:Int) (p:Pend) (h1:0<=mY/\mY<3) (h2:AZ p=true) (hb:b.length<=900):A3z 216 [JB] [(1,wM b),(3,.cells (Af (Al (e2 mY p))))] (.tuple []) [(1,wM ((b++Bp mY.toNat)++Lk p)),(3,.cells (Af (Al (e2 mY p))))]:=by
 have hk:IntKind.i64.wrap 2=2:=by decide+kernel
 have cn:=Abr b (e2 mY p) h1.1 (show mY<=1000000 from Aa) h2 hb;rw[Kr]at cn⊢;refine yG Tryz.func216 ?_
 repeat'(first|exact Au|refine yC ?_ ?_|refine⟨λh=>?_⟩|refine BA 4 4 ?_|rw[hk]|refine BT [(1,1),(3,3)] [(1,1),(3,3)] cn ?_|fail)
 all_goals first
  |(exfalso;simp_all;done)
  |exact AE [1,2] Y Y Y (A3l _)
theorem Amj (b:Bs) (p:Pend) (h2:AZ p=true) (hb:b.length<=900):A3z 216 [JB] [(1,wM b),(3,.cells (Af (Al (e5 p))))] (.tuple []) [(1,wM (b++Lk p)),(3,.cells (Af (Al (e5 p))))]:=by
 have hk:IntKind.i64.wrap 5=5:=by decide+kernel
 have cn:=Abx b (e5 p) h2 Aa;rw[LV]at cn⊢;refine yG Tryz.func216 ?_
 repeat'(first|exact Au|refine yC ?_ ?_|refine⟨λh=>?_⟩|refine BA 4 4 ?_|rw[hk]|refine BT [(1,1),(3,3)] [(1,1),(3,3)] cn ?_|fail)
 all_goals first
  |(exfalso;simp_all;done)
  |exact AE [1,2] Y Y Y (A3l _)
theorem Aer:A3z 149 [.agg (Af (Al e0))] [] (.tuple [.t (.str Qo),.t .nilIface]) []:=by
 have hk:IntKind.i64.wrap 0=0:=by decide+kernel
 have cm:=VX;have c1:=Jv 0 0 7 Aa Aa;have c2:=Amp (Bp 0) (by have:=P7 (k:=0) Aa;omega);rw[Ks]at cm c2⊢;refine yF Tryz.func149 ?_
 repeat'(first|exact Au|refine yC ?_ ?_|refine⟨λh=>?_⟩|refine BA 8 8 ?_|rw[hk]|refine BT [(26,1),(10,3)] [(1,26),(3,10)] c1 ?_|refine BT [(26,1),(2,3)] [(1,26),(3,2)] c2 ?_|refine Ev Ai Y Y Y Y Y Y (CE _).symm Y ?_|fail)
 all_goals first
  |(exfalso;simp_all;done)
  |exact Ah Y (A3m Y)
theorem Aeq (mY aP:Int) (h1:0<=mY/\mY<3) (h2:1<=aP/\aP<=20):A3z 149 [.agg (Af (Al (e1 mY aP)))] [] (.tuple [.t (.str (ZJ mY aP)),.t .nilIface]) []:=by
 have hk:IntKind.i64.wrap 1=1:=by decide+kernel
 have cm:=NR mY aP h1 h2;have c1:=Jv 1 0 7 Aa Aa;have c2:=Amo (Bp 1) mY aP h1 h2 (by have:=P7 (k:=1) Aa;omega);rw[HU]at cm c2⊢;refine yF Tryz.func149 ?_
 repeat'(first|exact Au|refine yC ?_ ?_|refine⟨λh=>?_⟩|refine BA 8 8 ?_|rw[hk]|refine BT [(26,1),(10,3)] [(1,26),(3,10)] c1 ?_|refine BT [(26,1),(2,3)] [(1,26),(3,2)] c2 ?_|refine Ev Ai Y Y Y Y Y Y (CE _).symm Y ?_|fail)
 all_goals first
  |(exfalso;simp_all;done)
  |exact Ah Y (A3m Y)
theorem Aep (mY:Int) (p:Pend) (h1:0<=mY/\mY<3) (h2:AZ p=true):A3z 149 [.agg (Af (Al (e2 mY p)))] [] (.tuple [.t (.str (Qn mY p)),.t .nilIface]) []:=by
 have hk:IntKind.i64.wrap 2=2:=by decide+kernel
 have cm:=VW mY p h1 h2;have c1:=Jv 2 0 7 Aa Aa;have c2:=Amn (Bp 2) mY p h1 h2 (by have:=P7 (k:=2) Aa;omega);rw[Kr]at cm c2⊢;refine yF Tryz.func149 ?_
 repeat'(first|exact Au|refine yC ?_ ?_|refine⟨λh=>?_⟩|refine BA 8 8 ?_|rw[hk]|refine BT [(26,1),(10,3)] [(1,26),(3,10)] c1 ?_|refine BT [(26,1),(2,3)] [(1,26),(3,2)] c2 ?_|refine Ev Ai Y Y Y Y Y Y (CE _).symm Y ?_|fail)
 all_goals first
  |(exfalso;simp_all;done)
  |exact Ah Y (A3m Y)
theorem Aem (p:Pend) (h2:AZ p=true):A3z 149 [.agg (Af (Al (e5 p)))] [] (.tuple [.t (.str (Oc p)),.t .nilIface]) []:=by
 have hk:IntKind.i64.wrap 5=5:=by decide+kernel
 have cm:=Adv p h2;have c1:=Jv 5 0 7 Aa Aa;have c2:=Amj (Bp 5) p h2 (by have:=P7 (k:=5) Aa;omega);rw[LV]at cm c2⊢;refine yF Tryz.func149 ?_
 repeat'(first|exact Au|refine yC ?_ ?_|refine⟨λh=>?_⟩|refine BA 8 8 ?_|rw[hk]|refine BT [(26,1),(10,3)] [(1,26),(3,10)] c1 ?_|refine BT [(26,1),(2,3)] [(1,26),(3,2)] c2 ?_|refine Ev Ai Y Y Y Y Y Y (CE _).symm Y ?_|fail)
 all_goals first
  |(exfalso;simp_all;done)
  |exact Ah Y (A3m Y)
theorem O7 (c:Coord) (hc:SmallC c) (lO mZ:Int):A3z 211 [.agg (Af (AN c)),.t (.int .i64 lO),.t (.int .i64 mZ)] [] (.tuple [.agg (Af (AN (Ek c lO mZ))),.t (.int .i64 (EP c lO mZ))]) []:=by
 have key: ∀f,f=decide ((1<=lO/\lO<=8)/\(1<=mZ/\mZ<=20))->A3z 65 [.agg (Af (AN c)),.t (.int .i8 0),.t (.bool f)] [] (.t (FG c 0 (decide ((1<=lO/\lO<=8)/\(1<=mZ/\mZ<=20))))) []:=λf hf=>by subst hf;exact G6 c hc 0 _
 by_cases ha:decide ((1<=lO/\lO<=8)/\(1<=mZ/\mZ<=20))=false\/BD c=false
 ·have e:EP c lO mZ=2:=by unfold EP;rw[show ER c 0 _=2 from WU ha];simp
  have ec:Ek c lO mZ=BX:=by simp[Ek,e]
  simp only[FG,WU ha]at key;rw[e,ec];have cd:=Dj (.str [97,110,32,97,114,103,117,109,101,110,116]) 2;refine yF Tryz.func211 ?_
  repeat'(first|exact Au|refine yC ?_ ?_|refine⟨λh=>?_⟩|refine Ab0 ?_ (c:=key _ (by first|exact bI Aa|exact bT Aa|exact bF Aa))|fail)
  all_goals try(exfalso;omega)
  all_goals(refine Ah Y ?_;first|exact A3l _|exact As ⟨C2,A3l _,trivial⟩)
 ·have hm:BD c=true:=by
   cases h:BD c with
   |true=>rfl
   |false=>exact absurd (.inr h) ha
  have hf:((1<=lO/\lO<=8)/\(1<=mZ/\mZ<=20)):=by
   cases h:decide ((1<=lO/\lO<=8)/\(1<=mZ/\mZ<=20))with
   |true=>simpa using h
   |false=>exact absurd (.inl h) ha
  cases hb:Ci c.state 0 with
  |false=>
   have e:EP c lO mZ=180:=by unfold EP;rw[show ER c 0 _=180 from(Ug ha).trans (WU hb)];simp
   have ec:Ek c lO mZ=BX:=by simp[Ek,e]
   simp only[FG,Ug ha,hb,Xs]at key;rw[e,ec];have cd:=Dj (.str [97,32,115,116,97,116,101]) 180;refine yF Tryz.func211 ?_
   repeat'(first|exact Au|refine yC ?_ ?_|refine⟨λh=>?_⟩|refine Ab0 ?_ (c:=key _ (by first|exact bI Aa|exact bT Aa|exact bF Aa))|fail)
   all_goals try(exfalso;omega)
   all_goals(refine Ah Y ?_;first|exact A3l _|exact As ⟨C2,A3l _,trivial⟩)
  |true=>
   have mN:ER c 0 (decide ((1<=lO/\lO<=8)/\(1<=mZ/\mZ<=20)))=0:=(Ug ha).trans (Ug (by rw[hb];decide));simp only[FG,Ug ha,hb,A50,ZF]at key;by_cases hx:100<=c.lT
   ·have e:EP c lO mZ=102:=by unfold EP;rw[mN,WU hx];simp
    have ec:Ek c lO mZ=BX:=by simp[Ek,e]
    rw[e,ec];have cd:=Dj (.str [97,110,32,101,112,111,99,104]) 102;refine yF Tryz.func211 ?_
    repeat'(first|exact Au|refine Cr 36 72 Y Y Y Y Y ?_|refine yC ?_ ?_|refine⟨λh=>?_⟩|refine Ab0 ?_ (c:=key _ (by first|exact bI Aa|exact bT Aa|exact bF Aa))|fail)
    all_goals try(exfalso;omega)
    all_goals(refine Ah Y ?_;first|exact A3l _|exact As ⟨C2,A3l _,trivial⟩)
   ·have e:EP c lO mZ=0:=by unfold EP;rw[mN,Ug hx];simp
    by_cases h0:c.state=0
    ·have ec:Ek c lO mZ=⟨1,lO,0,mZ,0,[],[],0⟩:=by simp[Ek,e,h0]
     rw[e,ec];refine yF Tryz.func211 ?_
     repeat'(first|exact Au|refine yC ?_ ?_|refine⟨λh=>?_⟩|refine Ab0 ?_ (c:=key _ (by first|exact bI Aa|exact bT Aa|exact bF Aa))|fail)
     all_goals try(exfalso;omega)
     all_goals(refine Ah Y ?_;exact AA)
    ·have ec:Ek c lO mZ=⟨1,c.lO,c.lT+1,mZ,0,[],[],0⟩:=by simp[Ek,e,h0]
     have hn:=Iz (Fm hm h0);have hw:IntKind.i64.wrap (c.lT+1)=c.lT+1:=A1 Aa Aa;rw[e,ec];refine yF Tryz.func211 ?_
     repeat'(first|exact Au|refine yC ?_ ?_|refine⟨λh=>?_⟩|refine Ab0 ?_ (c:=key _ (by first|exact bI Aa|exact bT Aa|exact bF Aa))|refine D4 9 7 [(6,20),(8,20)] [0,1,0,4,12,3,35,127,255] ?_|fail)
     all_goals try(exfalso;omega)
     all_goals(refine Ah Y ?_;simp only[hw];exact AA)
