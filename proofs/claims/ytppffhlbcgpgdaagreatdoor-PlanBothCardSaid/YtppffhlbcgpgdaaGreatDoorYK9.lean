/- Lemmas toward the law; each names its conditions. -/
import Derived.Test.YtppffhlbcgpgdaaGreatDoorYK7
import Derived.Test.YtppffhlbcgpgdaaGreatDoorYIC
set_option linter.all false
set_option maxRecDepth 100000
set_option maxHeartbeats 8000000
namespace Go.Proofs.YtppffhlbcgpgdaaGreatDoor
open Go.Am
attribute [local irreducible] Decidable.decide Tr A6 CG EJ
theorem nine {i:Int} (h:0<=i/\i<=8):i=0\/i=1\/i=2\/i=3\/i=4\/i=5\/i=6\/i=7\/i=8:=Aa
def Anm (i:Int):Bs:=[UInt8.ofNat (48+i.toNat)]
def Avg:Bs:=[48,49,50,51,52,53,54,55,56,57,97,98,99,100,101,102,103,104,105,106,107,108,109,110,111,112,113,114,115,116,117,118,119,120,121,122]
theorem Arx {i:Int} (h:0<=i/\i<=8):(Avg.drop i.toNat).take (i.toNat+1-i.toNat)=Anm i:=by
 rcases nine h with rfl|rfl|rfl|rfl|rfl|rfl|rfl|rfl|rfl<;>decide+kernel
theorem Ajm (i:Int) (h:0<=i/\i<=8):A3z 366 [.t (.int .i64 i)] [] (.t (.str (Anm i))) []:=by
 have hw:IntKind.i64.wrap (i+1)=i+1:=A1 Aa Aa;have hd:=Arx h;refine yF Tryz.func366 ?_
 repeat'(first|exact Au|rw[hw]|refine yC ?_ ?_|refine⟨λh=>?_⟩|refine Ai0 (s:=Avg) Ai (l:=i.toNat) (h:=i.toNat+1) Y Y Y Y (Di Y Aa) (Di Y Aa) (by simp[Avg];omega) Aa hd Y ?_|fail)
 all_goals first
  |exact Ah Y (A3m Y)
  |(exfalso;omega)
theorem Arc (i:Int) (h:0<=i/\i<=8):A3z 365 [.t (.int .i64 i),.t (.int .i64 10)] [] (.t (.str (Anm i))) []:=by
 have cs:=Ajm i h;refine yF Tryz.func365 ?_
 repeat'(first|exact Au|refine yC ?_ ?_|refine⟨λh=>?_⟩|fail)
 all_goals first
  |exact Ah Y (A3m Y)
  |(exfalso;omega)
  |(exfalso;simp_all;done)
theorem Alm (i:Int) (h:0<=i/\i<=8):A3z 364 [.t (.int .i64 i)] [] (.t (.str (Anm i))) []:=by
 have cs:=Arc i h;have hw:IntKind.i64.wrap i=i:=A1 Aa Aa;refine yF Tryz.func364 ?_
 repeat'(first|exact Au|rw[hw]|refine yC ?_ ?_|refine⟨λh=>?_⟩|fail)
 all_goals first
  |exact Ah Y (A3m Y)
theorem Ad3 (i:Int) (h:0<=i/\i<=8):A3z 363 [.t (.int .i64 i)] [] (.t (.str (Anm i))) []:=by
 have cs:=Alm i h;refine yF Tryz.func363 ?_
 repeat'(first|exact Au|refine yC ?_ ?_|refine⟨λh=>?_⟩|fail)
 all_goals first
  |exact Ah Y (A3m Y)
def Aus (e:Int):Bs:=[if e=0 then 105 else 98]
theorem UI (e:Int) (he:e=0\/e=1):A3z 214 [.t (.int .i8 e)] [] (.t (.str (Aus e))) []:=by
 rcases he with rfl|rfl
 all_goals
  refine yF Tryz.func214 ?_
  repeat'(first|exact Au|refine yC ?_ ?_|refine⟨λh=>?_⟩|fail)
  all_goals first
   |exact Ah Y (A3m Y)
   |(exfalso;simp_all;done)
theorem Ad1 (e i:Int) (he:e=0\/e=1) (hi:i=0\/i=1\/i=2):A3z 362 [.t (.int .i8 e),.t (.int .i64 i)] [] (.t (.str [if e=0 then 105 else 98,UInt8.ofNat (48+i.toNat)])) []:=by
 have cl:=UI e he;have ci:=Ad3 i Aa;rcases he with rfl|rfl
 all_goals
  refine yF Tryz.func362 ?_
  repeat'(first|exact Au|refine yC ?_ ?_|refine⟨λh=>?_⟩|fail)
  all_goals first
   |exact Ah Y (A3m Y)
   |(exfalso;omega)
   |(exfalso;simp_all[Aus];done)
theorem Ak3 (e:Int) (he:e=0\/e=1):A3z 148 [.t (.int .i8 e)] [] (.t (.str [if e=0 then 105 else 98,109])) []:=by
 have cl:=UI e he;rcases he with rfl|rfl
 all_goals
  refine yF Tryz.func148 ?_
  repeat'(first|exact Au|refine yC ?_ ?_|refine⟨λh=>?_⟩|fail)
  all_goals first
   |exact Ah Y (A3m Y)
   |(exfalso;simp_all[Aus];done)
theorem Ajo (i p:Int) (hi:i=0\/i=1\/i=2) (hp:1<=p/\p<=8):A3z 385 [.t (.int .i64 i),.t (.int .i64 p)] [] (.t (.str [98,UInt8.ofNat (48+i.toNat),46,UInt8.ofNat (48+p.toNat)])) []:=by
 have cl:=Ad1 1 i (.inr Y) hi;have ci:=Ad3 p Aa;refine yF Tryz.func385 ?_
 repeat'(first|exact Au|refine yC ?_ ?_|refine⟨λh=>?_⟩|fail)
 all_goals first
  |exact Ah Y (A3m Y)
  |(exfalso;omega)
  |(exfalso;simp_all;done)
end Go.Proofs.YtppffhlbcgpgdaaGreatDoor
namespace Go.Proofs.YtppffhlbcgpgdaaGreatDoor
open Go.Am
attribute [local irreducible] Decidable.decide
def F5 (e i:Int):Bs:=[if e=0 then 105 else 98,UInt8.ofNat (48+i.toNat)]
def Ajn (i p:Int):Bs:=[98,UInt8.ofNat (48+i.toNat),46,UInt8.ofNat (48+p.toNat)]
theorem Aur (e i:Int) (he:e=0\/e=1) (hi:i=0\/i=1\/i=2):A3z 362 [.t (.int .i8 e),.t (.int .i64 i)] [] (.t (.str (F5 e i))) []:=Ad1 e i he hi
theorem Adh (i p:Int) (hi:i=0\/i=1\/i=2) (hp:p=1\/p=2\/p=3\/p=4\/p=5\/p=6\/p=7\/p=8):A3z 385 [.t (.int .i64 i),.t (.int .i64 p)] [] (.t (.str (Ajn i p))) []:=Ajo i p hi Aa
end Go.Proofs.YtppffhlbcgpgdaaGreatDoor
namespace Go.Proofs.YtppffhlbcgpgdaaGreatDoor
open Go.Am
attribute [local irreducible] Decidable.decide Tr A6 CG EJ
def BI (e i:Int):List T:=[.int .i8 e,.int .i64 i]
theorem Iv (e i:Int) (he:e=0\/e=1) (hi:i=0\/i=1\/i=2):A3z 361 [.agg (Af (BI e i))] [] (.t (.str (F5 e i))) []:=by
 refine yF Tryz.func361 ?_
 repeat'(first|exact Au|refine yC ?_ ?_|refine⟨λh=>?_⟩|refine BZ (Aur e i he hi) ?_|fail)
 exact Ah Y (A3l _)
theorem OE (e i:Int) (b:Batch) (he:e=0\/e=1) (hi:i=0\/i=1\/i=2):A3z 379 [.t (.agg (BI e i)),.agg (Af (Ak b))] [] (.t (.str (F5 e i))) []:=by
 refine yF Tryz.func379 ?_
 repeat'(first|exact Au|refine yC ?_ ?_|refine⟨λh=>?_⟩|refine BZ (Iv e i he hi) ?_|fail)
 exact Ah Y (A3l _)
def Ey (e i:Int) (b:Batch):Bs:=if e=1/\b.vV=true then Ajn i b.lO else F5 e i
theorem OH (i:Int) (b:Batch) (hi:i=0\/i=1\/i=2) (hp:A4 b=true):A3z 383 [.t (.agg (BI 1 i)),.agg (Af (Ak b))] [] (.t (.str (Ey 1 i b))) []:=by
 have dG:b.lO=1\/b.lO=2\/b.lO=3\/b.lO=4\/b.lO=5\/b.lO=6\/b.lO=7\/b.lO=8:=by
  simp only[A4,Qp,Uj]at hp;have n7:=hp.1;unfold E5 at n7;omega
 refine yF Tryz.func383 ?_
 repeat'(first|exact Au|refine yC ?_ ?_|refine⟨λh=>?_⟩|refine BZ (Iv 1 i (.inr Y) hi) ?_|refine BZ (Adh i b.lO hi dG) ?_|fail)
 all_goals(refine Ah Y (A3m ?_);simp_all[Ey])
def AJ (e i:Int) (p:Part):T:=if(i<0\/3<=i)\/BU p=false then .nilIface else if e=0 then .iface 277 (.agg (BI e i))else if e=1 then .iface 278 (.agg (BI e i))else .nilIface
def Bq (e i:Int) (p:Part):T:=if i<0\/3<=i then Co 214 [97,32,112,97,114,116,105,116,105,111,110] 2 else if BU p=false then C4 p else if e=0\/e=1 then .nilIface else Co 214 [97,110,32,101,110,103,105,110,101] 2
theorem Adq (e i:Int) (p:Part) (hs:AU p):A3z 102 [.t (.int .i8 e),.t (.int .i64 i),.agg (Af (Ax p))] [] (.tuple [.t (AJ e i p),.t (Bq e i p)]) []:=by
 have cc:=Vc p hs;refine yF Tryz.func102 ?_
 cases eE:BU p with
 |false=>
  have he:C4 p=Co 214 (Qw p) 2:=by simp[C4,eE]
  have hw:AJ e i p=.nilIface:=by simp[AJ,eE]
  have h2: ¬(i<0\/3<=i)->Bq e i p=Co 214 (Qw p) 2:=λhn=>by simp only[Bq,Ug hn,eE,Xs,he]
  have h1:(i<0\/3<=i)->Bq e i p=Co 214 [97,32,112,97,114,116,105,116,105,111,110] 2:=λhn=>by simp only[Bq,WU hn]
  rw[he]at cc
  repeat'(first|exact Au|refine yC ?_ ?_|refine⟨λh=>?_⟩|fail)
  all_goals first
   |(refine Ah Y (A3m ?_);rw[hw,h1 Aa]<;>rfl)
   |(refine Ah Y (A3m ?_);rw[hw,h2 Aa]<;>rfl)
 |true=>
  have he:C4 p=.nilIface:=by simp[C4,eE]
  rw[he]at cc;have w1:(i<0\/3<=i)->AJ e i p=.nilIface:=λhn=>by simp only[AJ,WU (Or.inl hn:(i<0\/3<=i)\/BU p=false)]
  have x1:(i<0\/3<=i)->Bq e i p=Co 214 [97,32,112,97,114,116,105,116,105,111,110] 2:=λhn=>by simp only[Bq,WU hn]
  have n1: ¬(i<0\/3<=i)-> ¬((i<0\/3<=i)\/BU p=false):=λhn hh=>hh.elim hn (λh'=>by rw[eE]at h';cases h');have w2: ¬(i<0\/3<=i)->e=0->AJ e i p=.iface 277 (.agg (BI e i)):=λhn he=>by simp only[AJ,Ug (n1 hn),WU he]
  have w3: ¬(i<0\/3<=i)->e≠0->e=1->AJ e i p=.iface 278 (.agg (BI e i)):=λhn h0 he=>by simp only[AJ,Ug (n1 hn),Ug h0,WU he]
  have w4: ¬(i<0\/3<=i)->e≠0->e≠1->AJ e i p=.nilIface:=λhn h0 he=>by simp only[AJ,Ug (n1 hn),Ug h0,Ug he]
  have oV: ¬BU p=false:=by rw[eE];simp
  have x2: ¬(i<0\/3<=i)->(e=0\/e=1)->Bq e i p=.nilIface:=λhn he=>by simp only[Bq,Ug hn,Ug oV,WU he]
  have x4: ¬(i<0\/3<=i)-> ¬(e=0\/e=1)->Bq e i p=Co 214 [97,110,32,101,110,103,105,110,101] 2:=λhn he=>by simp only[Bq,Ug hn,Ug oV,Ug he]
  repeat'(first|exact Au|refine yC ?_ ?_|refine⟨λh=>?_⟩|fail)
  all_goals first
   |(refine Ah Y (A3m ?_);rw[w1 Aa,x1 Aa]<;>rfl)
   |(refine Ah Y (A3m ?_);rw[w2 Aa Aa,x2 Aa Aa]<;>rfl)
   |(refine Ah Y (A3m ?_);rw[w3 Aa Aa Aa,x2 Aa Aa]<;>rfl)
   |(refine Ah Y (A3m ?_);rw[w4 Aa Aa Aa,x4 Aa Aa]<;>rfl)
theorem A3y {P:Program} {f:Nat} {xs:List AV} {σ σ2 s:St} {r r':AV} {e:A2} (l:St) (h:Ct P f xs σ r σ2) (hz:EC l [r] [] σ2=([r'],e,s)):Ct P f xs σ r' s:=by
 refine⟨h.1,λvs w g g6 hi=>(h.2 vs w g g6 hi).mono ?_⟩;rintro ed w' ⟨v,g1,rfl,h1,h2,h3⟩;obtain⟨g2,k1,k2,k3,_⟩:=Df (w:=w') l (a:=⟨#[],[]⟩) hz h3 (vs:=[v]) (A3k h2 BB.nil) (λt x hx=>by simp[Am.look]at hx);exact⟨v,g2,Y,h1.trans k1,k3.2 0 v r' Y Y,k2⟩
theorem Adp (p:Part) (hs:AU p):A3z 103 [.agg (Af (Ax p))] [] (.agg [.t (.int .i64 p.vR),.t (.int .i64 p.fin),.row 28 5 0 (p.rows.map Aw).length,.t (.slice .any 3 (p.kI.map An)),.t (.slice .any 4 (p.rA.map Ar))]) [(28,.grow 5 (p.rows.map Aw))]:=by
 rw[Ts];refine A3y (e:=[]) [(90,.grow 4 (p.rA.map Ar)),(80,.grow 3 (p.kI.map An))] (Aa0 p hs) ?_;have b1:Nat.beq 80 90=false:=rfl;have b2:Nat.beq 28 90=false:=rfl;have b3:Nat.beq 28 80=false:=rfl;have b4:Nat.beq 90 80=false:=rfl;have t1:(p.rA.map Ar).take p.rA.length=p.rA.map Ar:=QQ Ac;have t2:(p.kI.map An).take p.kI.length=p.kI.map An:=QQ Ac;simp[EC,NH,Am.look,KJ,AV.has,F6,IM,BG,Gf,b1,b2,b3,b4,t1,t2]
def JG (b:Batch):Entry:={kind:=0,b:=b,oC:=false,next:=0,offset:=0,row:=⟨0,0,0,[],[]⟩,vM:=EB}
theorem YP {b:Batch} (hb:A4 b=true):Cs (JG b)=true:=by
 simp[Cs,DV,IK,JG,hb,EB]
theorem Aap {b:Batch} (hb:A4 b=true):Tx [JG b]=0:=by simp[Tx,YP hb]
theorem Aao {b:Batch} (hb:A4 b=true) (n:Bs):RN n [JG b]=EV n [JG b]:=by simp[RN,YP hb]
def QA (e i:Int):T:=if e=0 then .iface 277 (.agg (BI e i))else .iface 278 (.agg (BI e i))
theorem XC (e i:Int) (he:e=0\/e=1) (dT:i=0\/i=1\/i=2) (p:Part) (b:Batch) (hs:AU p) (hf:0<=p.fin/\p.fin<=1048576) (hb:A4 b=true) (ht:b.vV=false) (hc:C6 p.rA b=0) (hi:Ff p.rA b=false) (hr:HD p b=.nilIface):A3z 121 [.t (QA e i),.agg (Af (Ax p)),.agg (Af (Ak b))] [] (.tuple [.agg (Af (Ax (EH p b))),.t (.int .i64 p.fin),.t (.slice .any 4 ((EV (F5 e i) [JG b]).map BE)),.t .nilIface]) []:=by
 have dS:=hs;obtain⟨s1,s2,s3,s4⟩:=dS;have hm:=BV hb;have ck:=J0 p.rA b s4 Aa;have cr:=JY p b hs Aa Aa;have co:=Adp p hs;have ce:=Amq p.vR p.fin p.rows p.kI p.rA b hb hf.1 Aa s1;unfold Adm at ce;have ct:=Vz p.rA b p.fin s4 Aa;rw[hc,hi]at ck;rw[hr]at cr;rw[Nt hc hi (s6:=p.fin) ⟨Aa,hf.2⟩]at ct;have ep:=On (F5 e i) [JG b] Ac (by simp[F2,JG,EB];omega);rw[Aap hb,Aao hb]at ep;have cI:=OE e i b he dT
 have cB:e=1->A3z 383 [.t (.agg (BI e i)),.agg (Af (Ak b))] [] (.t (.str (F5 e i))) []:=λh=>by
  have:=OH i b dT hb;subst h
  rwa[show Ey 1 i b=F5 1 i by simp[Ey,ht]]at this
 refine yF Tryz.func121 ?_
 repeat'(first|refine BT [] [(28,86)] co ?_|exact Au|refine yC ?_ ?_|refine⟨λh=>?_⟩|refine B5 12 4 ?_|refine BT [(86,3),(28,1)] [(3,86),(1,28)] ce ?_|fail)
 ·exact absurd (by assumption:b.vV=true) (by rw[ht];simp)
 refine Tr.weak (E:=[(0,.t (QA e i)),(5,.ref 10 0),(6,.ref 12 0),(10,.t (.int .i64 p.fin)),(14,.ref 28 0)]) (S:=[(86,.grow 5 ((p.rows++CA b p.fin).map Aw)),(28,.cells [.t (.int .i64 p.vR),.t (.int .i64 (p.fin+b.rZ.length)),.row 86 5 0 ((p.rows++CA b p.fin).map Aw).length,.t (.slice .any 3 (p.kI.map An)),.t (.slice .any 4 ((G2 p.rA b p.fin).map Ar))]),(12,.cells (Af Mi.zero)),(10,.cells (Af (Ak b)))]) ?_ (Bb [4] (Ag Y Y (Ag Y Y (Ag Y Y (Ag Y Y (Ag Y Y A8))))) Y)
 have hw:(e=0/\QA e i=.iface 277 (.agg (BI e i)))\/(e=1/\QA e i=.iface 278 (.agg (BI e i))):=by
  rcases he with rfl|rfl
  ·exact .inl ⟨Y,Y⟩
  ·exact .inr ⟨Y,Y⟩
 rcases hw with⟨bM,hw⟩|⟨bM,hw⟩<;>rw[hw]
 ·repeat'(first|exact Au|refine yC ?_ ?_|refine⟨λh=>?_⟩|refine B5 12 4 ?_|refine B5 18 11 ?_|refine Jm Y Y Y Y Y (Ct.args ep ⟨A3l _,Jk ⟨⟨A3u _,A3u _,A3u _,A3u _,A3u _,A3u _,A3u _,A3u _,A3u _,A3u _,A3u _,A3u _,A3u _,A3u _,A3u _,A3u _,A3u _,AD.nil,trivial⟩,trivial⟩,trivial⟩) Y Y ?_|fail)
  refine Ah Y (A3m ?_);simp[EH,Ax,Af,BG];exact QQ Ac
 ·have cB:=cB bM
  repeat'(first|exact Au|refine yC ?_ ?_|refine⟨λh=>?_⟩|refine B5 12 4 ?_|refine B5 18 11 ?_|refine Mo cB ?_|refine Jm Y Y Y Y Y (Ct.args ep ⟨A3l _,Jk ⟨⟨A3u _,A3u _,A3u _,A3u _,A3u _,A3u _,A3u _,A3u _,A3u _,A3u _,A3u _,A3u _,A3u _,A3u _,A3u _,A3u _,A3u _,AD.nil,trivial⟩,trivial⟩,trivial⟩) Y Y ?_|fail)
  refine Ah Y (A3m ?_);simp[EH,Ax,Af,BG];exact QQ Ac
def KX (p:Part) (b:Batch):Option (Bs×Int):=match KI p b with
 |some x=>some x
 |none=>if Amz p b>1048576 then some ([116,104,101,32,101,110,100],102)else none
def Avc:Option (Bs×Int)->T
 |some (s,n)=>Co 214 s n
 |none=>.nilIface
theorem X4 (p:Part) (b:Batch):HD p b=Avc (KX p b):=by
 unfold HD KX
 cases KI p b with
 |some x=>rfl
 |none=>simp only;split<;>rfl
theorem J1 {p:Part} {b:Batch} (h:KX p b=none):HD p b=.nilIface:=by rw[X4,h];rfl
structure PR where
 part:Part
 s6:Int
 w:List Wr
 err:Option (Bs×Int)
def D8 (e i:Int) (p:Part) (b:Batch):PR:=
 if C6 p.rA b≠0 then⟨EW,0,[],some ([97,32,115,101,113,117,101,110,99,101],C6 p.rA b)⟩
 else if Ff p.rA b=true then⟨p,L8 p.rA b,[],none⟩
 else match KX p b with
  |some x=>⟨EW,0,[],some x⟩
  |none=>if b.vV=true then⟨O3 p b,-1,EV (Ey e i b) [JG b],none⟩else⟨EH p b,p.fin,EV (F5 e i) [JG b],none⟩
def PR.av (r:PR):AV:=.tuple [.agg (Af (Ax r.part)),.t (.int .i64 r.s6),.t (.slice .any 4 (r.w.map BE)),.t (Avc r.err)]
theorem Ih:Aq (.agg (Af Mi.zero)) (.agg (Af (Ax EW))):=by
 refine AC ?_;exact⟨A3l _,A3l _,Ay,Ay,Ay,trivial⟩
theorem Akf {t:Option (Bs×Int)} {sz:Nat} {m:SM}:Aq (.tuple [.agg (Af Mi.zero),.t (.int .i64 0),.t (.slice m sz []),.t (Avc t)]) (PR.av ⟨EW,0,[],t⟩):=As ⟨Ih,A3l _,Ay,A3l _,trivial⟩
theorem Aqd (p:Part) (hs:AU p):A3z 103 [.agg (Af (Ax p))] [] (.agg (Af (Ax p))) []:=by
 have h:=Adp p hs;refine Ct.freeze (r':=.agg (Af (Ax p))) (e:=[]) (s:=[]) h ?_ Y;have t1:(p.rows.map Aw).take p.rows.length=p.rows.map Aw:=QQ Ac;simp[EC,NH,Am.look,KJ,AV.has,F6,IM,BG,Gf,t1,Ax,Af]
theorem XG (w:T) (p:Part) (b:Batch) (hs:AU p) (hf:0<=p.fin/\p.fin<=1048576) (hb:A4 b=true) (h:C6 p.rA b≠0\/Ff p.rA b=true\/KX p b≠none) (e i:Int):A3z 121 [.t w,.agg (Af (Ax p)),.agg (Af (Ak b))] [] (D8 e i p b).av []:=by
 have hm:=BV hb;have ck:=J0 p.rA b hs.2.2.2 Aa;have cr:=JY p b hs Aa Aa;have co:=Aqd p hs;by_cases h1:C6 p.rA b≠0
 ·have hr:D8 e i p b=⟨EW,0,[],some ([97,32,115,101,113,117,101,110,99,101],C6 p.rA b)⟩:=by simp[D8,h1]
  rw[hr];generalize C6 p.rA b=n at*;refine yF Tryz.func121 ?_
  repeat'(first|exact Au|refine yC ?_ ?_|refine⟨λh=>?_⟩|refine B5 12 4 ?_|refine B5 18 11 ?_|fail)
  exact Ah Y (Akf (t:=some ([97,32,115,101,113,117,101,110,99,101],n)))
 ·have nZ:C6 p.rA b=0:=A34.1 h1;by_cases h2:Ff p.rA b=true
  ·have hr:D8 e i p b=⟨p,L8 p.rA b,[],none⟩:=by simp[D8,nZ,h2]
   rw[hr];rw[nZ,h2]at ck;refine yF Tryz.func121 ?_
   repeat'(first|exact Au|refine yC ?_ ?_|refine⟨λh=>?_⟩|refine B5 12 4 ?_|refine B5 18 11 ?_|fail)
   exact Ah Y (As ⟨A3l _,A3l _,Ay,A3l _,trivial⟩)
  ·have h3:KX p b≠none:=by
    rcases h with h|h|h
    ·exact absurd nZ h
    ·exact absurd h h2
    ·exact h
   have qH:Ff p.rA b=false:=by simpa using h2
   rw[X4]at cr
   cases oU:KX p b with
   |none=>exact absurd oU h3
   |some x=>
    have hr:D8 e i p b=⟨EW,0,[],some x⟩:=by simp[D8,nZ,h2,oU]
    rw[hr];rw[oU]at cr;rw[nZ,qH]at ck;obtain⟨s,n⟩:=x;refine yF Tryz.func121 ?_
    repeat'(first|exact Au|refine yC ?_ ?_|refine⟨λh=>?_⟩|refine B5 12 4 ?_|refine B5 18 11 ?_|fail)
    exact Ah Y (Akf (t:=some (s,n)))
theorem XF (e i:Int) (he:e=0\/e=1) (dT:i=0\/i=1\/i=2) (p:Part) (b:Batch) (hs:AU p) (hf:0<=p.fin/\p.fin<=1048576) (hb:A4 b=true)
  (hT:b.vV=true->C6 p.rA b=0->Ff p.rA b=false->KX p b=none->A3z 121 [.t (QA e i),.agg (Af (Ax p)),.agg (Af (Ak b))] [] (D8 e i p b).av []):
  A3z 121 [.t (QA e i),.agg (Af (Ax p)),.agg (Af (Ak b))] [] (D8 e i p b).av []:=by
 by_cases h:C6 p.rA b≠0\/Ff p.rA b=true\/KX p b≠none
 ·exact XG _ p b hs hf hb h e i
 ·have h1:C6 p.rA b=0:=Ya λh'=>h (.inl h')
  have h2:Ff p.rA b=false:=by cases hh:Ff p.rA b with
   |false=>rfl
   |true=>exact absurd (.inr (.inl hh)) h
  have h3:KX p b=none:=Ya λh'=>h (.inr (.inr h'))
  cases ht:b.vV with
  |true=>exact hT ht h1 h2 h3
  |false=>
   have:=XC e i he dT p b hs hf hb ht h1 h2 (J1 h3);rw[show D8 e i p b=⟨EH p b,p.fin,EV (F5 e i) [JG b],none⟩by simp[D8,h1,h2,h3,ht]];exact this
def Aa1 (o:Opn) (aA N:Nat):List T:=[.int .i64 o.lO,.int .i64 o.lT,.slice (.phys aA N) 5 (o.gG.map Ak)]
theorem XL (o:Opn) (hs:Iw o) (aE:o.gG≠[]):Hs Tryz.prog 143 [.agg (Af (An o))] [] (λ_:Nat×Nat=>True) (λτ=>.agg (Af (Aa1 o τ.1 τ.2))) (λτ=>[(60,.rights [(τ.1,τ.2,o.gG.length*5)])]):=by
 have aQ:(o.gG.map Ak).length=o.gG.length:=Ts ..;have cC:=hs.1;refine Dz Ai Tryz.func143 Y Y ?_
 repeat'(first|exact Au|refine yB ?_ ?_|refine⟨λh=>?_⟩|refine B5 6 5 ?_|fail)
 refine A3s 2 2 40 5 Y Y Y ?_;refine AW (ι:=Nat) (λi=>i<=o.gG.length) (λi=>[(1,.ref 2 0),(2,.ref 4 0),(9,.t (.slice .any 5 (o.gG.map Ak))),(10,.t (.int .i64 ((o.gG.map Ak).length:Int))),(11,.t (.int .i64 i))]) (λi=>[(80,.grow 5 ((o.gG.take i).map Ak)),(4,.cells (Af Ajf.zero)),(2,.cells [.t (.int .i64 o.lO),.t (.int .i64 o.lT),.row 80 5 0 ((o.gG.take i).map Ak).length])]) (λi=>o.gG.length-i) 0 Ac ?_ ?_
 ·exact Bb [] Aa6 Y
 rintro i hi;by_cases aC:i<o.gG.length
 ·have hr:o.gG[i]?=some o.gG[i]:=Kv aC;have cA:=hs.2 o.gG[i] (Agz aC);generalize o.gG[i]=r at hr cA
  repeat'(first|exact Au|refine yB ?_ ?_|refine⟨λh=>?_⟩|refine B5 6 5 ?_|refine Vr (id:=6) Ai [0,6] 5 Ab Y Y Y Y Y Y (by rintro ch e s ⟨hx,_⟩;rcases hx with hx|hx<;>cases hx) ?_|refine Mo (Ja r cA) ?_|fail)
  refine AM (i+1) aC Aa [5] (Ag Y Y (Ag Y Y (Ag Y Y (Ag Y Y (Ag Y (by rw[A1 Aa Aa];rfl) A8))))) ?_;have ht:(o.gG.take (i+1)).map Ak=(o.gG.take i).map Ak++[Ak r]:=by rw[AB hr];simp
  rw[ht];rfl
 ·have aH:o.gG.take i=o.gG:=QQ Aa;rw[aH];refine Tr.newRights 30 Y ?_;have gN:o.gG.map Ak≠[]:=by simpa using aE
  repeat'(first|exact Au|refine Aun 23 80 60 (y:=.agg [.t (.int .i64 o.lO),.t (.int .i64 o.lT),.row 80 5 0 (o.gG.map Ak).length]) (λaA N=>.agg (Af (Aa1 o aA N))) (λaA N=>[(aA,N,o.gG.length*5)]) Y Y Y gN Y (λaA N=>Aue ⟨Azy,Azy,Aud Y,trivial⟩) (λaA N _=>⟨Ac,λq hq=>.inl (by rw[aQ];simpa using hq)⟩) (λaA N _=>?_)|refine yB ?_ ?_|refine⟨λh=>?_⟩|refine B5 6 5 ?_|fail)
  refine B3 ?_;exact Ir (_,_) trivial [2,1] Y Y Y (A3l _)
def Nv (l:List Opn) (k:Nat) (τ:Nat×Nat) (o:Opn) (i:Nat):List (List T):=((l.take i).map An).set k (Aa1 o τ.1 τ.2)
theorem Atv {l:List Opn} {k:Nat} {o:Opn} (h:l[k]?=some o) (τ:Nat×Nat):Nv l k τ o (k+1)=(l.take k).map An++[Aa1 o τ.1 τ.2]:=by
 have aC:=(ZH.1 h).1;have hl:((l.take k).map An).length=k:=by simp;omega
 unfold Nv;rw[AB h,A38,A7l _ _ Aa,hl];simp
theorem Ajg {l:List Opn} {k i:Nat} {o r:Opn} (hr:l[i]?=some r) (hk:k<i) (τ:Nat×Nat):Nv l k τ o (i+1)=Nv l k τ o i++[An r]:=by
 have aC:=(ZH.1 hr).1;have hl:((l.take i).map An).length=i:=by simp;omega
 unfold Nv;rw[AB hr,A38,List.set_append_left _ _ Aa];simp
theorem QE {l:List Opn} {k i:Nat} {o:Opn} {τ:Nat×Nat} (hi:i<=l.length):(Nv l k τ o i).length=i:=by simp[Nv];omega
theorem Aqa (p:Part) (hs:AU p) (k:Nat) (o:Opn) (hk:p.kI[k]?=some o) (aE:o.gG≠[]):Hs Tryz.prog 103 [.agg (Af (Ax p))] [] (λ_:Nat×Nat=>True) (λ_=>.agg [.t (.int .i64 p.vR),.t (.int .i64 p.fin),.row 28 5 0 p.rows.length,.row 80 3 0 p.kI.length,.row 90 4 0 p.rA.length]) (λτ=>[(90,.grow 4 (p.rA.map Ar)),(80,.grow 3 (Nv p.kI k τ o p.kI.length)),(28,.grow 5 (p.rows.map Aw)),(52,.rights [(τ.1,τ.2,o.gG.length*5)])]):=by
 obtain⟨h1,h2,h3,h4,h5⟩:=hs;have eT:(p.kI.map An).length=p.kI.length:=Ts ..;have pE:(p.rA.map Ar).length=p.rA.length:=Ts ..;have g8:=(ZH.1 hk).1;have iK:=h3 o (Apj hk);refine Dz Ai Tryz.func103 Y Y ?_
 repeat'(first|exact Au|refine yB ?_ ?_|refine⟨λh=>?_⟩|refine B5 1 9 ?_|refine B5 5 5 ?_|refine Uq Y Y Y Y Y (K3 p.rows h1) Y Y Y Y ?_|fail)
 refine A3s 6 4 45 4 Y Y Y ?_;refine A3s 6 3 40 3 Y Y Y ?_
 refine AW (ι:=Nat⊕(Nat×(Nat×Nat))) (λq=>match q with
   |.inl i=>i<=k
   |.inr (i,_)=>k<i/\i<=p.kI.length)
  (λq=>match q with
   |.inl i=>[(1,.ref 2 0),(2,.ref 4 0),(3,.ref 6 0),(17,.t (.slice .any 3 (p.kI.map An))),(18,.t (.int .i64 ((p.kI.map An).length:Int))),(19,.t (.int .i64 i))]
   |.inr (i,_)=>[(1,.ref 2 0),(2,.ref 4 0),(3,.ref 6 0),(17,.t (.slice .any 3 (p.kI.map An))),(18,.t (.int .i64 ((p.kI.map An).length:Int))),(19,.t (.int .i64 i))])
  (λq=>match q with
   |.inl i=>[(80,.grow 3 ((p.kI.take i).map An)),(90,.grow 4 []),(6,.cells [.t (.int .i64 p.vR),.t (.int .i64 p.fin),.row 28 5 0 (p.rows.map Aw).length,.row 80 3 0 ((p.kI.take i).map An).length,.row 90 4 0 0]),(28,.grow 5 (p.rows.map Aw)),(4,.cells (Af Mi.zero)),(2,.cells (Af (Ax p)))]
   |.inr (i,τ)=>[(80,.grow 3 (Nv p.kI k τ o i)),(90,.grow 4 []),(6,.cells [.t (.int .i64 p.vR),.t (.int .i64 p.fin),.row 28 5 0 (p.rows.map Aw).length,.row 80 3 0 (Nv p.kI k τ o i).length,.row 90 4 0 0]),(28,.grow 5 (p.rows.map Aw)),(4,.cells (Af Mi.zero)),(2,.cells (Af (Ax p))),(52,.rights [(τ.1,τ.2,o.gG.length*5)])])
  (λq=>match q with
   |.inl i=>p.kI.length-i
   |.inr (i,_)=>p.kI.length-i) (.inl 0) Ac ?_ ?_
 ·exact Bb [] Aa6 Y
 rintro(i|⟨i,τ⟩) hI
 ·simp only at hI;have aC:i<p.kI.length:=Aa;by_cases lK:i<k
  ·have hr:p.kI[i]?=some p.kI[i]:=Kv aC;have cA:=h3 p.kI[i] (Agz aC);generalize p.kI[i]=r at hr cA
   repeat'(first|exact Au|refine yB ?_ ?_|refine⟨λh=>?_⟩|refine B5 1 9 ?_|refine B5 5 5 ?_|refine Mo (Ki r cA) ?_|fail)
   refine⟨.inl (i+1),lK,(by show p.kI.length-(i+1)<p.kI.length-i;omega),[5],(Ag Y Y (Ag Y Y (Ag Y Y (Ag Y Y (Ag Y Y (Ag Y (by rw[A1 Aa Aa];rfl) A8)))))),?_⟩;have ht:(p.kI.take (i+1)).map An=(p.kI.take i).map An++[An r]:=by rw[AB hr];simp
   simp only[ht];rfl
  ·obtain rfl:i=k:=Aa
   repeat'(first|exact Au|refine yB ?_ ?_|refine⟨λh=>?_⟩|refine B5 1 9 ?_|fail)
   refine Ai2 (ι:=Nat×Nat) (λ_=>True) (λτ=>[(1,.ref 2 0),(2,.ref 4 0),(3,.ref 6 0),(17,.t (.slice .any 3 (p.kI.map An))),(18,.t (.int .i64 ((p.kI.map An).length:Int))),(19,.t (.int .i64 i))])
    (λτ=>[(80,.grow 3 (Nv p.kI i τ o (i+1))),(52,.rights [(τ.1,τ.2,o.gG.length*5)]),(90,.grow 4 []),(6,.cells [.t (.int .i64 p.vR),.t (.int .i64 p.fin),.row 28 5 0 (p.rows.map Aw).length,.row 80 3 0 (Nv p.kI i τ o (i+1)).length,.row 90 4 0 0]),(28,.grow 5 (p.rows.map Aw)),(4,.cells (Af Mi.zero)),(2,.cells (Af (Ax p)))]) (λ_ _ h=>h) ?_ ?_
   ·refine WF Ai Y Y ?_
    repeat'(first|exact Au|refine yA ?_ ?_|refine⟨λh=>?_⟩|refine Aei Y ?_|refine JK Y Y ?_|refine LA Y Y Y ?_ ?_|refine JO Ai [] [(60,52)] Y Y Y Y Y (XL o iK aE) Y (λ_ _=>rfl) (λ_ _=>rfl) (λ_ _=>rfl) (λτ _=>?_)|fail)
    all_goals(refine Aaw τ trivial [5] Aa6 ?_;simp only[Atv hk];rfl)
   ·rintro τ _;refine A3t Y ?_;refine Tr.rotS Y ?_
    repeat'(first|exact Au|refine yB ?_ ?_|refine⟨λh=>?_⟩|refine B5 1 9 ?_|refine B5 5 5 ?_|fail)
    refine⟨.inr (i+1,τ),⟨Aa,Aa⟩,(by show p.kI.length-(i+1)<p.kI.length-i;omega),[],(Ag Y Y (Ag Y Y (Ag Y Y (Ag Y Y (Ag Y Y (Ag Y (by rw[A1 Aa Aa];rfl) A8)))))),Y⟩
 ·obtain⟨fO,cK⟩:=hI;by_cases aC:i<p.kI.length
  ·have hr:p.kI[i]?=some p.kI[i]:=Kv aC;have cA:=h3 p.kI[i] (Agz aC);generalize p.kI[i]=r at hr cA;have kZ:(Nv p.kI k τ o i).length=i:=QE cK
   repeat'(first|exact Au|refine yB ?_ ?_|refine⟨λh=>?_⟩|refine B5 1 9 ?_|refine B5 5 5 ?_|refine Mo (Ki r cA) ?_|fail)
   refine⟨.inr (i+1,τ),⟨Aa,Aa⟩,(by show p.kI.length-(i+1)<p.kI.length-i;omega),[5],(Ag Y Y (Ag Y Y (Ag Y Y (Ag Y Y (Ag Y Y (Ag Y (by rw[A1 Aa Aa];rfl) A8)))))),?_⟩;simp only[Ajg hr fO];rfl
  ·obtain rfl:i=p.kI.length:=Aa;have kZ:(Nv p.kI k τ o p.kI.length).length=p.kI.length:=QE (WW _)
   repeat'(first|exact Au|refine yB ?_ ?_|refine⟨λh=>?_⟩|refine B5 1 9 ?_|refine B5 5 5 ?_|fail)
   refine A3t Y ?_
   refine AW (ι:=Nat) (λi=>i<=p.rA.length) (λi=>[(2,.ref 4 0),(3,.ref 6 0),(32,.t (.slice .any 4 (p.rA.map Ar))),(33,.t (.int .i64 ((p.rA.map Ar).length:Int))),(34,.t (.int .i64 i))])
    (λi=>[(90,.grow 4 ((p.rA.take i).map Ar)),(80,.grow 3 (Nv p.kI k τ o p.kI.length)),(6,.cells [.t (.int .i64 p.vR),.t (.int .i64 p.fin),.row 28 5 0 (p.rows.map Aw).length,.row 80 3 0 (Nv p.kI k τ o p.kI.length).length,.row 90 4 0 ((p.rA.take i).map Ar).length]),(28,.grow 5 (p.rows.map Aw)),(4,.cells (Af Mi.zero)),(2,.cells (Af (Ax p))),(52,.rights [(τ.1,τ.2,o.gG.length*5)])]) (λi=>p.rA.length-i) 0 Ac ?_ ?_
   ·exact Bb [] Aa6 Y
   rintro j hj;by_cases eR:j<p.rA.length
   ·have hr:p.rA[j]?=some p.rA[j]:=Kv eR;have cA:=h5 p.rA[j] (Agz eR);generalize p.rA[j]=r at hr cA
    repeat'(first|exact Au|refine yB ?_ ?_|refine⟨λh=>?_⟩|refine B5 1 9 ?_|refine B5 5 5 ?_|refine BZ (HZ r.s9 cA) ?_|fail)
    refine AM (j+1) eR Aa [7] (Ag Y Y (Ag Y Y (Ag Y Y (Ag Y Y (Ag Y (by rw[A1 Aa Aa];rfl) A8))))) ?_;have ht:(p.rA.take (j+1)).map Ar=(p.rA.take j).map Ar++[Ar r]:=by rw[AB hr];simp
    rw[ht];rfl
   ·repeat'(first|exact Au|refine yB ?_ ?_|refine⟨λh=>?_⟩|refine B5 1 9 ?_|refine B5 5 5 ?_|fail)
    have mW:p.rA.take j=p.rA:=QQ Aa;refine B3 ?_;refine Ir τ trivial [3,2,1] Y Y ?_ (A3m ?_)
    ·rw[mW];rfl
    ·rw[mW,Ts,kZ,pE];rfl
theorem Ag3 (es:List (List T)) (x:List T) (bW:es.length<=1000000):A3z 230 [.row 1 3 0 es.length,.t (.int .i64 (es.length:Int)),.t (.slice .full 3 [x])] [(1,.grow 3 es)] (.row 1 3 0 (es++[x]).length) [(1,.grow 3 (es++[x]))]:=by
 refine yG Tryz.func230 ?_
 repeat'(first|exact Au|refine yB ?_ ?_|refine⟨λh=>?_⟩|refine B5 11 8 ?_|refine B5 15 8 ?_|refine WE Ai (l:=es.length) (h:=es.length) Y Y Y Y Y Y Jg (Di Y Y) (WW _) (WW _) Y ?_|fail)
 ·simp at h
 ·refine B3 ?_;exact A0 [] Y Y Y (A3l _)
theorem Yl {es:List (List T)} {σ:St} {x:T} (h:Am.look σ 1=some (.grow 3 es)):KE σ [.row 1 3 0 es.length,.t x]=some [.t (.slice .any 3 es),.t x]:=by
 have t1:es.take es.length=es:=QQ (WW _);have t2:es.length.ble es.length=true:=Ac;simp[KE,HH,h,t1,t2]
theorem Aly {α:Type} {l:List α} {i:Nat} {x:α} (h:i<=l.length):(I7 l i x)[i]?=some x:=by
 unfold I7;rw[Aez (by rw[A2i];omega)];simp[A2i,A7i h]
theorem Ajl {l:List Opn} (h:Ju Opn.lO l) {i:Nat} {r:Opn} (hr:l[i]?=some r) {k:Int} (hk:k<r.lO): ∀o∈l.drop i,k<o.lO:=λo ho=>by
 have hd:Ju Opn.lO (l.drop i):=A8f (List.drop_sublist i l) h;rw[CL hr]at ho hd;rcases Als.1 ho with rfl|ho
 ·exact hk
 ·have:=(A2x.1 hd).1 o ho;omega
theorem Alu {l:List Opn} {i:Nat} {x:Opn} (h1: ∀o∈l.take i,o.lO<x.lO) (h2: ∀o∈l.drop i,x.lO<o.lO):(I8 Opn.lO x l).map An=(l.take i).map An++An x::(l.drop i).map An:=by
 obtain⟨q1,q2⟩:=Ky (f:=Opn.lO) h1 (λo ho=>Int.le_of_lt (h2 o ho));rw[A5j]at q1 q2;have q3:(l.drop i).filter (λy=>decide (x.lO<y.lO))=l.drop i:=A6z.2 λo ho=>by simpa using h2 o ho
 rw[q3]at q2;unfold I8;rw[q1,q2];simp
theorem Alx {α:Type} {l:List α} {i:Nat} {x y:α} (h:i<=l.length):(I7 l i x).set (0+i) y=l.take i++y::l.drop i:=by
 unfold I7;have hl:(l.take i).length=i:=by rw[A2i];omega
 rw[Atj,A7l _ _ Aa,hl];simp
abbrev RZ (b:Batch):List T:=[.int .i64 b.lO,.int .i64 b.lT,.slice .nil 0 []]
theorem Alk (l:List Opn) (b:Batch) (hl:l.length<=1000000) (fI:Ju Opn.lO l) (cH: ∀o∈l,o.lO≠b.lO) (hb:b.rZ.length<=1000000):
  A3z 186 [.row 1 3 0 (l.map An).length,.agg (Af (Ak b))] [(1,.grow 3 (l.map An))] (.row 1 3 0 (l.length+1)) [(1,.grow 3 ((I8 Opn.lO ⟨b.lO,b.lT,[b]⟩ l).map An))]:=by
 have aQ:(l.map An).length=l.length:=Ts ..;have cf:=Io l b.lO hl;have bG:l.any (λo=>decide (o.lO=b.lO))=false:=by rw[A4u];intro o ho;simpa using cH o ho
 rw[bG]at cf;refine yG Tryz.func186 ?_
 repeat'(first|exact Au|refine yB ?_ ?_|refine⟨λh=>?_⟩|refine B5 4 12 ?_|refine B5 7 10 ?_|refine FL Ai Y Y Y (Yl Y) cf Y Y ?_|fail)
 refine AW (ι:=Nat) (λi=>i<=l.length/\ ∀o∈l.take i,o.lO<b.lO) (λi=>[(0,.row 1 3 0 (l.map An).length),(3,.ref 6 0),(5,.t (.int .i64 i))]) (λ_=>[(6,.cells (Af (Ak b))),(1,.grow 3 (l.map An))]) (λi=>l.length-i) 0 Ac ?_ ?_
 ·exact Bb [] Aa6 Y
 rintro i ⟨hi,aI⟩;by_cases aC:i<l.length
 ·have hr:l[i]?=some l[i]:=Kv aC;generalize l[i]=r at hr;have dN:(l.map An)[0+i]?=some (An r):=by rw[Atj];exact C8 hr
  repeat'(first|exact Au|refine QC Ai Y Y Y Y Y Y Y Y ?_|refine yB ?_ ?_|refine⟨λh=>?_⟩|refine B5 4 12 ?_|refine RA (kc:=i) Y Y Y Y Y Y Y Y (by rw[aQ];exact aC) Y ?_|refine V8 Y Y Y Y Y Y dN Y Y Y ?_|refine Ahc [(1,1),(78,3)] [(1,1),(3,78)] ?_ (c:=(Ag0 (l.map An) i _ (by rw[aQ];exact aC) (by rw[aQ];exact hl)))|fail)
  ·refine AM (i+1) ⟨Aa,?_⟩ Aa [] (Ag Y Y (Ag Y Y (Ag Y (by rw[A1 Aa Aa];rfl) A8))) Y;intro o ho;rw[AB hr]at ho;rcases A25.1 ho with ho|ho
   ·exact aI o ho
   ·simp at ho;subst ho;assumption
  ·have hH:(I7 (l.map An) i (RZ b))[0+i]?=some (RZ b):=by
    rw[Atj];exact Aly (by rw[aQ];omega)
   refine Tr.weak (E:=[(0,.row 1 3 0 ((l.map An).length+1)),(3,.ref 6 0),(5,.t (.int .i64 i))]) (S:=[(1,.grow 3 (I7 (l.map An) i (RZ b))),(6,.cells (Af (Ak b)))]) ?_ (Bb [39] (Ag Y Y (Ag Y Y (Ag Y Y A8))) Y);generalize gW:I7 (l.map An) i (RZ b)=es at hH
   repeat'(first|exact Au|refine yB ?_ ?_|refine⟨λh=>?_⟩|refine B5 4 12 ?_|refine B5 7 10 ?_|refine RA (kc:=i) Y Y Y Y Y Y Y Y (by rw[aQ];omega) Y ?_|refine V8 Y Y Y Y Y Y hH Y Y Y ?_|refine Cb Ai (kc:=i) Y Y Y Y Y Y Y Y (by rw[aQ];omega) Y ?_|refine E9 Ai (ts:=[.slice .any 5 [Ak b]]) Y Y Y Y Y Y Y Y Y Y hH Y Y ?_|fail)
   refine B3 ?_;refine A0 [3] Y Y ?_ (A3m (by rw[aQ];rfl));have hO: ∀o∈l.drop i,b.lO<o.lO:=Ajl fI hr (by have:=cH r (Apj hr);omega);show[(1,Blk.grow 3 (es.set (0+i) (An ⟨b.lO,b.lT,[b]⟩)))]=_;rw[Alu aI hO,<-gW,Alx (by rw[aQ];omega),A8v,A7r]
 ·have hH:i=l.length:=Aa;subst hH
  have dN:(l.map An++[(RZ b)])[0+l.length]?=some (RZ b):=by
   rw[Atj,Aez (by rw[aQ];exact WW _)];simp
  have ci:=Ag3 (l.map An) (RZ b) (by rw[aQ];exact hl);rw[show(((l.map An).length:Nat):Int)=(l.length:Int)by rw[aQ]]at ci
  repeat'(first|exact Au|refine yB ?_ ?_|refine⟨λh=>?_⟩|refine B5 4 12 ?_|refine BT [(1,1)] [(1,1)] ci ?_|fail)
  refine Tr.weak (E:=[(0,.row 1 3 0 (l.map An++[(RZ b)]).length),(3,.ref 6 0),(5,.t (.int .i64 l.length))]) (S:=[(1,.grow 3 (l.map An++[(RZ b)])),(6,.cells (Af (Ak b)))]) ?_ (Bb [] (Ag Y Y (Ag Y Y (Ag Y Y A8))) Y);have iE:(l.map An++[(RZ b)]).length=l.length+1:=by rw[Xp,aQ];rfl
  rw[iE];generalize gW:l.map An++[(RZ b)]=es at dN
  repeat'(first|exact Au|refine yB ?_ ?_|refine⟨λh=>?_⟩|refine B5 4 12 ?_|refine B5 7 10 ?_|refine RA (kc:=l.length) Y Y Y Y Y Y Y Y Aa Y ?_|refine V8 Y Y Y Y Y Y dN Y Y Y ?_|refine Cb Ai (kc:=l.length) Y Y Y Y Y Y Y Y Aa Y ?_|refine E9 Ai (ts:=[.slice .any 5 [Ak b]]) Y Y Y Y Y Y Y Y Y Y dN Y Y ?_|fail)
  refine B3 ?_;refine A0 [3] Y Y ?_ (A3l _);show[(1,Blk.grow 3 (es.set (0+l.length) (An ⟨b.lO,b.lT,[b]⟩)))]=_;rw[QQ (WW _)]at aI;rw[Alu (i:=l.length) (x:=⟨b.lO,b.lT,[b]⟩) (by rw[QQ (WW _)];exact aI) Ac,<-gW,QQ (WW _),A6n (WW _),Atj,A7l _ _ (by rw[aQ];exact WW _)];simp
theorem Akn (o:Opn) (aA N:Nat):Fz (Aa1 o aA N) (An o):=⟨A3u _,A3u _,AD.any,trivial⟩
theorem Ada {l:List Opn} {k:Nat} {o:Opn} (hk:l[k]?=some o) (τ:Nat×Nat):E7 (Nv l k τ o l.length) (l.map An):=by
 unfold Nv;rw[QQ (WW _)];exact Ta (A3w _) (C8 hk) (Akn o τ.1 τ.2)
theorem Ao6 {l:List Opn} {k:Nat} {o:Opn} (hk:l[k]?=some o) (τ:Nat×Nat):(Nv l k τ o l.length)[k]?=some (Aa1 o τ.1 τ.2):=by
 have aC:=(ZH.1 hk).1;unfold Nv;rw[List.getElem?_set_self (by simp;omega)]
theorem Q2: ∀{l l':List (List T)} {k:Nat} {x y:List T},E7 l l'->Fz x y->E7 (l.set k x) (l'.set k y)
 |[],[],_,_,_,_,_=>trivial
 |a::r,b::s,0,x,y,h,hx=>⟨hx,h.2⟩
 |a::r,b::s,k+1,x,y,h,hx=>⟨h.1,Q2 h.2 hx⟩
 |[],_::_,_,_,_,h,_=>h.elim
 |_::_,[],_,_,_,h,_=>h.elim
theorem All (l:List Opn) (b:Batch) (k:Nat) (o:Opn) (τ:Nat×Nat) (hl:l.length<=1000000) (hk:l[k]?=some o) (eS:Fx (λo=>decide (o.lO=b.lO)) l=(k:Int)) (bG:l.any (λo=>decide (o.lO=b.lO))=true) (aE:o.gG≠[]) (ho:o.gG.length<=1000000):
  A3z 186 [.row 1 3 0 (Nv l k τ o l.length).length,.agg (Af (Ak b))] [(1,.grow 3 (Nv l k τ o l.length)),(3,.rights [(τ.1,τ.2,o.gG.length*5)])] (.row 1 3 0 l.length) [(1,.grow 3 ((l.set k {o with gG:=o.gG++[b]}).map An)),(3,.rights [])]:=by
 have kZ:(Nv l k τ o l.length).length=l.length:=QE (WW _);have aC:=(ZH.1 hk).1;have f8:(o.gG.map Ak).length=o.gG.length:=Ts ..;have gN:o.gG.map Ak≠[]:=by simpa using aE
 have cf:A3z 104 [.t (.slice .any 3 (Nv l k τ o l.length)),.t (.int .i64 b.lO)] [] (.tuple [.t (.int .i64 (Fx (λo=>decide (o.lO=b.lO)) l)),.t (.bool (l.any (λo=>decide (o.lO=b.lO))))]) []:=(Io l b.lO hl).args ⟨Jk (Ada hk τ),A3l _,trivial⟩;rw[bG,eS]at cf;have fP:=Ao6 hk τ;have jU:=Ada hk τ;have lE: ∀y,(Nv l k τ o l.length).set (0+k) y=(l.map An).set k y:=λy=>by unfold Nv;rw[QQ (WW _),Atj,List.set_set]
 generalize gW:Nv l k τ o l.length=es at*;have dN:es[0+k]?=some (Aa1 o τ.1 τ.2):=by rw[Atj];exact fP
 refine yG Tryz.func186 ?_
 repeat'(first|exact Au|refine yB ?_ ?_|refine⟨λh=>?_⟩|refine FL Ai Y Y Y (Yl Y) cf Y Y ?_|fail)
 refine Ai2 (ι:=Nat×Nat) (λ_=>True) (λ_=>[(0,.row 1 3 0 es.length)]) (λq=>[(6,.cells (Af (Ak b))),(1,.grow 3 (es.set (0+k) [.int .i64 o.lO,.int .i64 o.lT,.slice (.phys q.1 q.2) 5 (o.gG.map Ak++[Ak b])])),(3,.rights [])]) (λ_ _ h=>h) ?_ ?_
 ·refine TT Ai [0,1,2,3] 9 Ab Y Y (by rintro ch e s ⟨hx,_⟩;cases hx) ?_
  repeat'(first|exact Au|refine yA ?_ ?_|refine⟨λh=>?_⟩|refine Aei Y ?_|refine JK Y Y ?_|refine LA Y Y Y ?_ ?_|refine Cb Ai (kc:=k) Y Y Y Y Y Y Y Y Aa Y ?_|refine Aoz Ai Y Y Y Y Y dN Y Y Y ?_|refine Atr Ai 3 Y Y Y Y Y Y Y Y Y Y Y Y (by rw[f8];simp) gN (by simp[CH];omega) (λ_ _=>[]) (λ_ _ _=>⟨Ac,Ac⟩) (λ_ _=>rfl) (λb' N' _=>?_)|refine E9 Ai (ts:=[.slice (.phys b' N') 5 (o.gG.map Ak++[Ak b])]) Y Y Y Y Y Y Y Y Y Y dN Y Y ?_|fail)
  all_goals exact Aaw (b',N') trivial [] Aa6 Y
 ·rintro q _;rw[lE];refine Tr.subGrow (es':=(l.set k {o with gG:=o.gG++[b]}).map An) 1 Y ?_ ?_
  ·rw[List.map_set];refine Q2 (A3w _) ?_;exact⟨A3u _,A3u _,(by rw[A38];exact AD.any),trivial⟩
  repeat'(first|exact Au|refine yB ?_ ?_|refine⟨λh=>?_⟩|refine B5 4 12 ?_|refine B5 7 10 ?_|fail)
  refine B3 ?_;exact A0 [3] Y Y Y (A3m (by rw[kZ];rfl))
theorem Ape {l:List Opn} (h:Ju Opn.lO l) {k:Nat} {o x:Opn} (hk:l[k]?=some o) (hx:x.lO=o.lO):l.set k x=I8 Opn.lO x l:=by
 have aC:=(ZH.1 hk).1;have eU:l=l.take k++o::l.drop (k+1):=by rw[<-CL hk,A5j]
 have eD:Ju Opn.lO (l.take k++o::l.drop (k+1)):=eU▸h;have h1:=A22.1 eD;have h3:=(A2x.1 h1.2.1).1
 obtain⟨q1,q2⟩:=Ky (f:=Opn.lO) (k:=x.lO) (a:=l.take k) (b:=o::l.drop (k+1)) (λy hy=>by rw[hx];exact h1.2.2 y hy o Ac) (λy hy=>by
  rcases Als.1 hy with rfl|hy
  ·omega
  ·have:=h3 y hy;omega)
 rw[<-eU]at q1 q2;have q3:(l.drop (k+1)).filter (λy=>decide (x.lO<y.lO))=l.drop (k+1):=A6z.2 λy hy=>by have:=h3 y hy;simp;omega
 rw[A8c,Ug (by simp;omega),q3]at q2;unfold I8;rw[q1,q2,A76,WU aC]
theorem Hs.freezeK {P:Program} {f:Nat} {xs:List AV} {σ:St} {I:Type} {V:I->Prop} {r r':I->AV} {s s':I->St} {e:I->A2} (l:I->St) (h:Hs P f xs σ V r s) (hz: ∀i,EC (l i) [r i] [] (s i)=([r' i],e i,s' i)):Hs P f xs σ V r' s':=by
 refine⟨h.1,λvs w g g6 hi=>(h.2 vs w g g6 hi).mono ?_⟩;rintro ed w' ⟨v,g1,i,rfl,hV,h1,h2,h3⟩;obtain⟨g2,k1,k2,k3,_⟩:=Df (w:=w') (l i) (a:=⟨#[],[]⟩) (hz i) h3 (vs:=[v]) (A3k h2 BB.nil) (λt x hx=>by simp[Am.look]at hx);exact⟨v,g2,i,Y,hV,h1.trans k1,k3.2 0 v (r' i) Y Y,k2⟩
def Af3 (p:Part) (n:Nat):AV:=.agg [.t (.int .i64 p.vR),.t (.int .i64 p.fin),.t (.slice .any 5 (p.rows.map Aw)),.row 80 3 0 n,.t (.slice .any 4 (p.rA.map Ar))]
theorem Aqc (p:Part) (hs:AU p):A3z 103 [.agg (Af (Ax p))] [] (Af3 p p.kI.length) [(80,.grow 3 (p.kI.map An))]:=by
 refine A3y (e:=[]) [(90,.grow 4 (p.rA.map Ar)),(28,.grow 5 (p.rows.map Aw))] (Aa0 p hs) ?_;have b1:Nat.beq 28 90=false:=rfl;have b2:Nat.beq 80 90=false:=rfl;have b3:Nat.beq 80 28=false:=rfl;have b4:Nat.beq 90 28=false:=rfl;have t1:(p.rA.map Ar).take p.rA.length=p.rA.map Ar:=QQ Ac;have t2:(p.rows.map Aw).take p.rows.length=p.rows.map Aw:=QQ Ac;simp[EC,NH,Af3,Am.look,KJ,AV.has,F6,IM,BG,Gf,b1,b2,b3,b4,t1,t2]
theorem Aqb (p:Part) (hs:AU p) (k:Nat) (o:Opn) (hk:p.kI[k]?=some o) (aE:o.gG≠[]):Hs Tryz.prog 103 [.agg (Af (Ax p))] [] (λ_:Nat×Nat=>True) (λ_=>Af3 p p.kI.length) (λτ=>[(80,.grow 3 (Nv p.kI k τ o p.kI.length)),(52,.rights [(τ.1,τ.2,o.gG.length*5)])]):=by
 refine Hs.freezeK (e:=λ_=>[]) (λ_=>[(90,.grow 4 (p.rA.map Ar)),(28,.grow 5 (p.rows.map Aw))]) (Aqa p hs k o hk aE) λτ=>?_;have b1:Nat.beq 28 90=false:=rfl;have b2:Nat.beq 80 90=false:=rfl;have b3:Nat.beq 80 28=false:=rfl;have b4:Nat.beq 90 28=false:=rfl;have b5:Nat.beq 52 28=false:=rfl;have b6:Nat.beq 52 90=false:=rfl;have t1:(p.rA.map Ar).take p.rA.length=p.rA.map Ar:=QQ Ac;have t2:(p.rows.map Aw).take p.rows.length=p.rows.map Aw:=QQ Ac;simp[EC,Af3,Am.look,KJ,AV.has,F6,IM,BG,Gf,b1,b2,b3,b4,b5,b6,t1,t2]
theorem Yy {α:Type} {f:α->Int} {x:α}: ∀{l:List α},(∀o∈l,f o≠f x)->(I8 f x l).length=l.length+1
 |[],_=>by simp[I8]
 |a::r,h=>by
  have ih:=Yy (f:=f) (x:=x) (l:=r) λo ho=>h o (by simp[ho]);have ha:=h a Ac;simp only[I8,Xp,A2z,A8c]at ih⊢;by_cases h1:f a<f x
  ·have h2: ¬f x<f a:=Aa;simp only[h1,h2,A69,A64,Xs,A2z];simp only[A0s,ZF];omega
  ·have h2:f x<f a:=Aa;simp only[h1,h2,A69,A64,Xs,A2z];simp only[A0s,ZF];omega
theorem XD (e i:Int) (he:e=0\/e=1) (dT:i=0\/i=1\/i=2) (p:Part) (b:Batch) (hs:AU p) (hf:0<=p.fin/\p.fin<=1048576) (fI:Ju Opn.lO p.kI) (hb:A4 b=true) (ht:b.vV=true) (hc:C6 p.rA b=0) (hi:Ff p.rA b=false) (hr:HD p b=.nilIface) (cH: ∀o∈p.kI,o.lO≠b.lO):
  A3z 121 [.t (QA e i),.agg (Af (Ax p)),.agg (Af (Ak b))] [] (.tuple [.agg (Af (Ax ⟨p.vR,p.fin,p.rows,I8 Opn.lO ⟨b.lO,b.lT,[b]⟩ p.kI,G2 p.rA b (-1)⟩)),.t (.int .i64 (-1)),.t (.slice .any 4 ((EV (Ey e i b) [JG b]).map BE)),.t .nilIface]) []:=by
 have dS:=hs;obtain⟨s1,s2,s3,s4⟩:=dS;have hm:=BV hb;have ck:=J0 p.rA b s4 Aa;have cr:=JY p b hs Aa Aa;have co:=Aqc p hs;unfold Af3 at co;have cb:=Ja b Aa;have cj:=Alk p.kI b s2 fI cH Aa;rw[Ts]at cj;have ct:=Vz p.rA b (-1) s4 Aa;rw[hc,hi]at ck;rw[hr]at cr;rw[Nt hc hi (s6:= -1) ⟨Aa,Aa⟩]at ct;have ep:=On (Ey e i b) [JG b] Ac (by simp[F2,JG,EB];omega);rw[Aap hb,Aao hb]at ep
 have cI:e=0->A3z 379 [.t (.agg (BI e i)),.agg (Af (Ak b))] [] (.t (.str (Ey e i b))) []:=λh=>by
  have:=OE e i b he dT;subst h
  rwa[show Ey 0 i b=F5 0 i by simp[Ey]]
 have cB:e=1->A3z 383 [.t (.agg (BI e i)),.agg (Af (Ak b))] [] (.t (.str (Ey e i b))) []:=λh=>by
  have:=OH i b dT hb;subst h;exact this
 refine yF Tryz.func121 ?_
 repeat'(first|refine BT [] [(80,86)] co ?_|exact Au|refine yC ?_ ?_|refine⟨λh=>?_⟩|refine B5 12 4 ?_|refine BT [(86,1)] [(1,86)] cj ?_|fail)
 refine Tr.weak (E:=[(0,.t (QA e i)),(5,.ref 10 0),(6,.ref 12 0),(10,.t (.int .i64 (-1))),(14,.ref 28 0)]) (S:=[(86,.grow 3 ((I8 Opn.lO ⟨b.lO,b.lT,[b]⟩ p.kI).map An)),(28,.cells [.t (.int .i64 p.vR),.t (.int .i64 p.fin),.t (.slice .any 5 (p.rows.map Aw)),.row 86 3 0 (p.kI.length+1),.t (.slice .any 4 ((G2 p.rA b (-1)).map Ar))]),(12,.cells (Af Mi.zero)),(10,.cells (Af (Ak b)))]) ?_ (Bb [4] (Ag Y Y (Ag Y Y (Ag Y Y (Ag Y Y (Ag Y Y A8))))) Y)
 have hw:(e=0/\QA e i=.iface 277 (.agg (BI e i)))\/(e=1/\QA e i=.iface 278 (.agg (BI e i))):=by
  rcases he with rfl|rfl
  ·exact .inl ⟨Y,Y⟩
  ·exact .inr ⟨Y,Y⟩
 have hH:(I8 Opn.lO ⟨b.lO,b.lT,[b]⟩ p.kI).length=p.kI.length+1:=Yy cH;rcases hw with⟨bM,hw⟩|⟨bM,hw⟩<;>rw[hw]
 ·have cI:=cI bM
  repeat'(first|exact Au|refine yC ?_ ?_|refine⟨λh=>?_⟩|refine B5 12 4 ?_|refine B5 18 11 ?_|refine Mo cI ?_|refine Jm Y Y Y Y Y (Ct.args ep ⟨A3l _,Jk ⟨⟨A3u _,A3u _,A3u _,A3u _,A3u _,A3u _,A3u _,A3u _,A3u _,A3u _,A3u _,A3u _,A3u _,A3u _,A3u _,A3u _,A3u _,AD.nil,trivial⟩,trivial⟩,trivial⟩) Y Y ?_|fail)
  refine Ah Y (A3m ?_);simp[Ax,Af,BG,hH];exact QQ (by simp[hH])
 ·have cB:=cB bM
  repeat'(first|exact Au|refine yC ?_ ?_|refine⟨λh=>?_⟩|refine B5 12 4 ?_|refine B5 18 11 ?_|refine Mo cB ?_|refine Jm Y Y Y Y Y (Ct.args ep ⟨A3l _,Jk ⟨⟨A3u _,A3u _,A3u _,A3u _,A3u _,A3u _,A3u _,A3u _,A3u _,A3u _,A3u _,A3u _,A3u _,A3u _,A3u _,A3u _,A3u _,AD.nil,trivial⟩,trivial⟩,trivial⟩) Y Y ?_|fail)
  refine Ah Y (A3m ?_);simp[Ax,Af,BG,hH];exact QQ (by simp[hH])
theorem XE (e i:Int) (he:e=0\/e=1) (dT:i=0\/i=1\/i=2) (p:Part) (b:Batch) (hs:AU p) (hf:0<=p.fin/\p.fin<=1048576) (hb:A4 b=true) (ht:b.vV=true) (hc:C6 p.rA b=0) (hi:Ff p.rA b=false) (hr:HD p b=.nilIface) (k:Nat) (o:Opn) (hk:p.kI[k]?=some o) (eS:Fx (λo=>decide (o.lO=b.lO)) p.kI=(k:Int)) (bG:p.kI.any (λo=>decide (o.lO=b.lO))=true) (aE:o.gG≠[]):
  A3z 121 [.t (QA e i),.agg (Af (Ax p)),.agg (Af (Ak b))] [] (.tuple [.agg (Af (Ax ⟨p.vR,p.fin,p.rows,p.kI.set k {o with gG:=o.gG++[b]},G2 p.rA b (-1)⟩)),.t (.int .i64 (-1)),.t (.slice .any 4 ((EV (Ey e i b) [JG b]).map BE)),.t .nilIface]) []:=by
 have dS:=hs;obtain⟨s1,s2,s3,s4⟩:=dS;have hm:=BV hb;have ck:=J0 p.rA b s4 Aa;have cr:=JY p b hs Aa Aa;have co:=Aqb p hs k o hk aE;unfold Af3 at co;have cb:=Ja b Aa;have iK:=s3 o (Apj hk);have cj:=λτ=>All p.kI b k o τ s2 hk eS bG aE iK.1;have kZ: ∀τ,(Nv p.kI k τ o p.kI.length).length=p.kI.length:=λτ=>QE (WW _);simp only[kZ]at cj;have ct:=Vz p.rA b (-1) s4 Aa;rw[hc,hi]at ck;rw[hr]at cr;rw[Nt hc hi (s6:= -1) ⟨Aa,Aa⟩]at ct;have ep:=On (Ey e i b) [JG b] Ac (by simp[F2,JG,EB];omega);rw[Aap hb,Aao hb]at ep
 have cI:e=0->A3z 379 [.t (.agg (BI e i)),.agg (Af (Ak b))] [] (.t (.str (Ey e i b))) []:=λh=>by
  have:=OE e i b he dT;subst h
  rwa[show Ey 0 i b=F5 0 i by simp[Ey]]
 have cB:e=1->A3z 383 [.t (.agg (BI e i)),.agg (Af (Ak b))] [] (.t (.str (Ey e i b))) []:=λh=>by
  have:=OH i b dT hb;subst h;exact this
 refine yF Tryz.func121 ?_
 repeat'(first|exact Au|refine yC ?_ ?_|refine⟨λh=>?_⟩|refine B5 12 4 ?_|refine JO Ai [] [(80,86),(52,88)] Y Y Y Y Y co Y (λ_ _=>rfl) (λ_ _=>rfl) (λ_ _=>rfl) (λτ _=>?_)|refine Ahc [(86,1),(88,3)] [(1,86),(3,88)] ?_ (c:=(cj _))|fail)
 refine Tr.weak (E:=[(0,.t (QA e i)),(5,.ref 10 0),(6,.ref 12 0),(10,.t (.int .i64 (-1))),(14,.ref 28 0)]) (S:=[(86,.grow 3 ((p.kI.set k {o with gG:=o.gG++[b]}).map An)),(88,.rights []),(28,.cells [.t (.int .i64 p.vR),.t (.int .i64 p.fin),.t (.slice .any 5 (p.rows.map Aw)),.row 86 3 0 p.kI.length,.t (.slice .any 4 ((G2 p.rA b (-1)).map Ar))]),(12,.cells (Af Mi.zero)),(10,.cells (Af (Ak b)))]) ?_ (Bb [4] (Ag Y Y (Ag Y Y (Ag Y Y (Ag Y Y (Ag Y Y A8))))) Y)
 have hw:(e=0/\QA e i=.iface 277 (.agg (BI e i)))\/(e=1/\QA e i=.iface 278 (.agg (BI e i))):=by
  rcases he with rfl|rfl
  ·exact .inl ⟨Y,Y⟩
  ·exact .inr ⟨Y,Y⟩
 have hH:(p.kI.set k {o with gG:=o.gG++[b]}).length=p.kI.length:=List.length_set;rcases hw with⟨bM,hw⟩|⟨bM,hw⟩<;>rw[hw]
 ·have cI:=cI bM
  repeat'(first|exact Au|refine yC ?_ ?_|refine⟨λh=>?_⟩|refine B5 12 4 ?_|refine B5 18 11 ?_|refine Mo cI ?_|refine Jm Y Y Y Y Y (Ct.args ep ⟨A3l _,Jk ⟨⟨A3u _,A3u _,A3u _,A3u _,A3u _,A3u _,A3u _,A3u _,A3u _,A3u _,A3u _,A3u _,A3u _,A3u _,A3u _,A3u _,A3u _,AD.nil,trivial⟩,trivial⟩,trivial⟩) Y Y ?_|fail)
  refine Ah Y (A3m ?_);simp[Ax,Af,BG,hH];exact QQ (by simp[hH])
 ·have cB:=cB bM
  repeat'(first|exact Au|refine yC ?_ ?_|refine⟨λh=>?_⟩|refine B5 12 4 ?_|refine B5 18 11 ?_|refine Mo cB ?_|refine Jm Y Y Y Y Y (Ct.args ep ⟨A3l _,Jk ⟨⟨A3u _,A3u _,A3u _,A3u _,A3u _,A3u _,A3u _,A3u _,A3u _,A3u _,A3u _,A3u _,A3u _,A3u _,A3u _,A3u _,A3u _,AD.nil,trivial⟩,trivial⟩,trivial⟩) Y Y ?_|fail)
  refine Ah Y (A3m ?_);simp[Ax,Af,BG,hH];exact QQ (by simp[hH])
structure PO where
 part:Part
 s6:Int
 w:List Wr
 e:Int
def Fy (e q:Int) (p:Part):Bool:=decide (q<0\/3<=q)||(!BU p||decide (e≠0/\e≠1))
def Aa5 (e q:Int) (p:Part) (b:Batch):PO:=
 if Fy e q p=true\/A4 b=false then⟨EW,0,[],2⟩
 else match (D8 e q p b).err with
  |some x=>⟨EW,0,[],x.2⟩
  |none=>⟨(D8 e q p b).part,(D8 e q p b).s6,(D8 e q p b).w,0⟩
def PO.av (r:PO):AV:=.tuple [.agg (Af (Ax r.part)),.t (.int .i64 r.s6),.t (.slice .any 4 (r.w.map BE)),.t (.int .i64 r.e)]
theorem Aat {n:Int} {sz:Nat} {m:SM}:Aq (.tuple [.agg (Af Mi.zero),.t (.int .i64 0),.t (.slice m sz []),.t (.int .i64 n)]) (PO.av ⟨EW,0,[],n⟩):=As ⟨Ih,A3l _,Ay,A3l _,trivial⟩
theorem Aa3 {e q:Int} {p:Part} (h:Fy e q p=true):AJ e q p=.nilIface/\ ∃s,Bq e q p=Co 214 s 2:=by
 simp only[Fy,A6b,Uj,A5y]at h;unfold AJ Bq;by_cases h1:q<0\/3<=q
 ·exact⟨WU (.inl h1),_,WU h1⟩
 ·cases h2:BU p with
  |false=>exact⟨WU (.inr Y),Qw p,by rw[Ug h1];simp[C4,h2]⟩
  |true=>
   have h3:e≠0/\e≠1:=by rcases h with h|h|h;exact absurd h h1;rw[h2]at h;cases h;exact h
   have h4: ¬((q<0\/3<=q)\/true=false):=by simp;omega
   exact⟨by rw[Ug h4,Ug h3.1,Ug h3.2],[97,110,32,101,110,103,105,110,101],by rw[Ug h1,Ug Ac,Ug Aa]⟩
theorem NK {e q:Int} {p:Part} (h:Fy e q p=false):(AJ e q p=QA e q/\Bq e q p=.nilIface)/\(e=0\/e=1)/\(q=0\/q=1\/q=2)/\BU p=true:=by
 simp only[Fy,A7n,A7h,Bool.not_eq_false']at h;obtain⟨h1,h2,h3⟩:=h;have h4: ¬((q<0\/3<=q)\/BU p=false):=by rw[h2];simp;omega
 have he:e=0\/e=1:=Aa;refine⟨⟨?_,?_⟩,he,Aa,h2⟩
 ·unfold AJ QA;rw[Ug h4];rcases he with rfl|rfl
  ·rw[WU Y,WU Y]
  ·rw[Ug Ae,WU Y,Ug Ae]
 ·unfold Bq;rw[Ug h1,Ug (by rw[h2];simp),WU he]
theorem XA (e q:Int) (p:Part) (b:Batch) (hs:AU p) (hl:b.rZ.length<=1000000)
  (hp:Fy e q p=false->A4 b=true->A3z 121 [.t (QA e q),.agg (Af (Ax p)),.agg (Af (Ak b))] [] (D8 e q p b).av []):
  A3z 81 [.t (.int .i8 e),.t (.int .i64 q),.agg (Af (Ax p)),.agg (Af (Ak b))] [] (Aa5 e q p b).av []:=by
 have iZ:=Adq e q p hs;have cm:=Fk b Aa
 cases aR:Fy e q p with
 |true=>
  obtain⟨h1,s,h2⟩:=Aa3 aR;have hr:Aa5 e q p b=⟨EW,0,[],2⟩:=by simp[Aa5,aR]
  rw[hr];rw[h1,h2]at iZ;refine yF Tryz.func81 ?_
  repeat'(first|exact Au|refine yC ?_ ?_|refine⟨λh=>?_⟩|refine BZ (Ip s 2) ?_|fail)
  exact Ah Y Aat
 |false=>
  obtain⟨⟨h1,h2⟩,he,hq,eE⟩:=NK aR;rw[h1,h2]at iZ
  cases hm:A4 b with
  |false=>
   have hr:Aa5 e q p b=⟨EW,0,[],2⟩:=by simp[Aa5,hm]
   rw[hr];rw[hm]at cm;refine yF Tryz.func81 ?_
   repeat'(first|exact Au|refine yC ?_ ?_|refine⟨λh=>?_⟩|refine BZ (Ip [97,32,98,97,116,99,104] 2) ?_|fail)
   exact Ah Y Aat
  |true=>
   rw[hm]at cm;have cp:=hp aR hm
   cases hre:(D8 e q p b).err with
   |some x=>
    obtain⟨s,n⟩:=x;have hr:Aa5 e q p b=⟨EW,0,[],n⟩:=by simp[Aa5,hm,aR,hre]
    rw[hr];unfold PR.av at cp;rw[hre]at cp;refine yF Tryz.func81 ?_
    repeat'(first|exact Au|refine yC ?_ ?_|refine⟨λh=>?_⟩|refine BZ cp ?_|refine BZ (Ip s n) ?_|fail)
    exact Ah Y Aat
   |none=>
    have hr:Aa5 e q p b=⟨(D8 e q p b).part,(D8 e q p b).s6,(D8 e q p b).w,0⟩:=by simp[Aa5,hm,aR,hre]
    rw[hr];unfold PR.av at cp;rw[hre]at cp;generalize D8 e q p b=r at cp;refine yF Tryz.func81 ?_
    repeat'(first|exact Au|refine yC ?_ ?_|refine⟨λh=>?_⟩|refine BZ cp ?_|fail)
    exact Ah Y (A3l _)
end Go.Proofs.YtppffhlbcgpgdaaGreatDoor
namespace Go.Proofs.YtppffhlbcgpgdaaGreatDoor
open Go.Am
attribute [local irreducible] Decidable.decide
theorem PQ: ∀{l:List Prod} {n:Int},HT n l=true->n<=8->(l.length:Int)<=8-n
 |[],n,_,h=>by simp;omega
 |p::r,n,h,_=>by
  simp only[HT,Qp,Uj]at h;have hb:=HV h.1.2;unfold Dt at hb;have:=PQ h.2 Aa;simp only[A2z];omega
theorem PN {l:List Prod} (h:EN l=true):Gj l:=by
 have h1:=PQ h Aa;refine⟨Aa,λp hp=>?_⟩;have hb:=HV ((EG.1 h).2 p hp);unfold Dt at hb;omega
theorem U3 {p:Part} (h:POk p) (hr:p.rows.length<=1000000) (ho:p.kI.length<=1000000):AU p:=by
 refine⟨hr,ho,λo hm=>?_,PN h.vW⟩;have hc:=(h.ook o hm).1;have hl:=CM hc;refine⟨Aa,λb hb=>?_⟩;simp only[Cp,Qp]at hc;have:=BV (Me hc.2 b hb);omega
theorem Qi:POk EW:=⟨Ae,Ae,Ae,List.Pairwise.nil,λ_ h=>by simp[EW]at h,List.Pairwise.nil,λ_ h=>by simp[EW]at h,Y,λ_ h=>by simp[EW]at h⟩
structure YI (b:Batch) (i:Nat) (p:Part):Prop where
 ok:POk p
 vR:p.vR=0
 fin:p.fin=i
 kI:p.kI=[]
 rows:p.rows=(b.rZ.take i).mapIdx (IX b 0)
 none:i=0->p.rA=[]
 has:0<i->H6 p.rA b.lO=true/\(BK p.rA b.lO).lT=b.lT/\(BK p.rA b.lO).next=i/\ ∀s∈(BK p.rA b.lO).s9,s.seq<i
theorem Apz {p:Part} {b:Batch} {x:Bs×Int} (h:KI p b=some x):x.2≠0:=by
 unfold KI at h;split at h
 ·cases h
 ·split at h
  ·cases h;decide
  ·split at h
   ·cases h;decide
   ·split at h
    ·cases h;decide
    ·cases h
theorem Ap0 {p:Part} {b:Batch} {x:Bs×Int} (h:KX p b=some x):x.2≠0:=by
 unfold KX at h;split at h
 ·rename_i y hy;cases h;exact Apz hy
 ·split at h
  ·cases h;decide
  ·cases h
def I0 (p:Part) (b:Batch):Part:=if b.vV=true then O3 p b else EH p b
def As8 (p:Part) (b:Batch):Int:=if b.vV=true then-1 else p.fin
def Av5 (e q:Int) (b:Batch):List Wr:=if b.vV=true then EV (Ey e q b) [JG b]else EV (F5 e q) [JG b]
theorem Ap7 {e q:Int} {p:Part} {b:Batch} (h:(Aa5 e q p b).e=0):Fy e q p=false/\A4 b=true/\C6 p.rA b=0/\((Ff p.rA b=true/\Aa5 e q p b=⟨p,L8 p.rA b,[],0⟩)\/(Ff p.rA b=false/\KX p b=none/\Aa5 e q p b=⟨I0 p b,As8 p b,Av5 e q b,0⟩)):=by
 unfold Aa5 at h;split at h
 ·simp at h
 ·rename_i hn
  have h1:Fy e q p=false:=by
   cases hb:Fy e q p with
   |false=>rfl
   |true=>exact absurd (.inl hb) hn
  have h2:A4 b=true:=by
   cases hb:A4 b with
   |true=>rfl
   |false=>exact absurd (.inr hb) hn
  refine⟨h1,h2,?_⟩;by_cases hc:C6 p.rA b=0
  ·refine⟨hc,?_⟩
   cases hi:Ff p.rA b with
   |true=>exact .inl ⟨Y,by simp[Aa5,h1,h2,D8,hc,hi]⟩
   |false=>
    cases hr:KX p b with
    |none=>
     refine .inr ⟨Y,Y,?_⟩;cases ht:b.vV<;>simp[Aa5,h1,h2,D8,hc,hi,hr,ht,I0,As8,Av5]
    |some x=>
     exfalso;simp[D8,hc,hi,hr]at h;exact Ap0 hr h
  ·exfalso;simp[D8,hc]at h
theorem A28 {e q:Int} {p:Part} {b:Batch} (h1:Fy e q p=false) (h2:A4 b=true) (hc:C6 p.rA b=0):Aa5 e q p b=if Ff p.rA b=true then⟨p,L8 p.rA b,[],0⟩else match KX p b with
  |some x=>⟨EW,0,[],x.2⟩
  |none=>⟨I0 p b,As8 p b,Av5 e q b,0⟩:=by
 cases hi:Ff p.rA b with
 |true=>simp[Aa5,h1,h2,D8,hc,hi]
 |false=>
  cases hr:KX p b with
  |none=>cases ht:b.vV<;>simp[Aa5,h1,h2,D8,hc,hi,hr,ht,I0,As8,Av5]
  |some x=>simp[Aa5,h1,h2,D8,hc,hi,hr]
theorem XB (e i:Int) (he:e=0\/e=1) (dT:i=0\/i=1\/i=2) (p:Part) (b:Batch) (hs:AU p) (hp:POk p) (hb:A4 b=true) (ht:b.vV=true) (hc:C6 p.rA b=0) (hi:Ff p.rA b=false) (hr:KX p b=none):
  A3z 121 [.t (QA e i),.agg (Af (Ax p)),.agg (Af (Ak b))] [] (D8 e i p b).av []:=by
 have hf:0<=p.fin/\p.fin<=1048576:=⟨by have:=hp.b0;have:=hp.b1;omega,hp.b2⟩
 have gV:=J1 hr;have hP:D8 e i p b=⟨O3 p b,-1,EV (Ey e i b) [JG b],none⟩:=by simp[D8,hc,hi,hr,ht]
 rw[hP];have fT:=(LJ gV).1
 cases jJ:p.kI.find? (λo=>decide (o.lO=b.lO))with
 |none=>
  have cH: ∀o∈p.kI,o.lO≠b.lO:=λo ho=>by simpa using A5i.1 jJ o ho
  have:=XD e i he dT p b hs hf hp.vY hb ht hc hi gV cH;rw[show O3 p b=⟨p.vR,p.fin,p.rows,I8 Opn.lO ⟨b.lO,b.lT,[b]⟩ p.kI,G2 p.rA b (-1)⟩by simp[O3,H5,jJ]];exact this
 |some o=>
  obtain⟨k,hk,eS,bG⟩:=Lx jJ;have dG:o.lO=b.lO:=by simpa using A6d jJ
  have bR:=CM (hp.ook o (A40 jJ)).1;have aE:o.gG≠[]:=λh=>by rw[h]at bR;simp at bR
  have:=XE e i he dT p b hs hf hb ht hc hi gV k o hk eS bG aE;have oX:H5 p.kI b={o with gG:=o.gG++[b]}:=by simp[H5,jJ]
  rw[show O3 p b=⟨p.vR,p.fin,p.rows,p.kI.set k {o with gG:=o.gG++[b]},G2 p.rA b (-1)⟩by
   rw[Ape (x:={o with gG:=o.gG++[b]}) hp.vY hk Y,<-oX];rfl]
  exact this
theorem Ty (e i:Int) (he:e=0\/e=1) (dT:i=0\/i=1\/i=2) (p:Part) (b:Batch) (hs:AU p) (hp:POk p) (hb:A4 b=true):
  A3z 121 [.t (QA e i),.agg (Af (Ax p)),.agg (Af (Ak b))] [] (D8 e i p b).av []:=
 XF e i he dT p b hs ⟨by have:=hp.b0;have:=hp.b1;omega,hp.b2⟩ hb λht hc hi hr=>XB e i he dT p b hs hp hb ht hc hi hr
theorem Acq (e q:Int) (p:Part) (b:Batch) (hs:AU p) (hl:b.rZ.length<=1000000):
  A3z 81 [.t (.int .i8 e),.t (.int .i64 q),.agg (Af (Ax p)),.agg (Af (Ak b))] [] (Aa5 e q p b).av []:=
 XA e q p b hs hl λaR hb=>by
  obtain⟨_,he,hq,eE⟩:=NK aR;exact Ty e q he hq p b hs (Ez.1 eE) hb
end Go.Proofs.YtppffhlbcgpgdaaGreatDoor
namespace Go.Proofs.YtppffhlbcgpgdaaGreatDoor
open Go.Am
attribute [local irreducible] Decidable.decide Tr A6 CG EJ
theorem Aq3 {α:Type} {f:α->Int} {x:α} {l:List α}:(I8 f x l).length<=l.length+1:=by
 have h1: ∀{l:List α},(l.filter (λy=>decide (f y<f x))).length+(l.filter (λy=>decide (f x<f y))).length<=l.length:=by
  intro l
  induction l with
  |nil=>simp
  |cons a r ih=>
   simp only[A8c,A2z];by_cases c1:f a<f x
   ·have c2: ¬f x<f a:=Aa;simp only[c1,c2,A69,A64,Xs,A0s,ZF,A2z];omega
   ·by_cases c2:f x<f a
    ·simp only[c1,c2,A69,A64,Xs,A0s,ZF,A2z];omega
    ·simp only[c1,c2,A64,A0s,ZF];omega
 have:= @h1 l;simp only[I8,Xp,A2z];omega
